import PyProof.Rows.All
import Wide.All
import OpenK.AllK
import Wide.FinOn
import Lean
import PySem.Challenge.RW_no0014_01
set_option Elab.async false
set_option linter.all false
set_option backward.match.sparseCases false
set_option bootstrap.genMatcherCode false
set_option tactic.hygienic false
set_option genInjectivity false
set_option genSizeOf false
namespace Internal
open Option renaming some->U,none->KT,isSome_iff_exists->LY,isNone_iff_eq_none->Nw,map->NH,map_some->Oa,map_eq_some_iff->OC,isNone_some->Q4,isSome->R7
open PySem renaming wpAny_bind->KN,Value->KV,wpAny_pure->KY,Expr->K0,Str->K3,wpAny->K7,wpAny_mono->Lc,Shared->Le,Obj->Lg,model->Lh,Addr->Ln,sizeLine->LV,Stmt->LW,wpAny_holding->LX,wpAny_field->Mf,strKind->Mh,Program->Mi,wpAny_seqItems->Mn,NameKind->Mp,mainGlobals->Ms,starEach->Mu,intKind->MC,DictEntry->MF,wpAny_setField_rec->MJ,wpAny_call_entry->MK,wpAny_callSpecial?_slot->MO,World->MW,wpAny_standAt->MZ,assignEach->M2,stack->M6,wpAny_newObj_type->M8,wpAny_typeNameOfWhole_keyiter->Nh,wpAny_updateSeq->Np,assignInOrder->Nq,rawInt->Nu,IsPair->Nv,wpAny_Call_ofName->Nx,valueAt->Ny,intKind_is->NF,eval->NN,Around->NO,wpAny_typeNameOf_keyiter->NQ,swappedStores->NR,sysModules->NX,backTo->NY,treeTable->N1,sizeLine_eq->N2,compareOp->N3,callEnvC->N8,tupleKind->Od,cLine->Oh,FuncData->Oi,pyNext->Oo,codeAny_mono->Ou,wpAny_rule->Oy,ZipApart->Oz,pyHash->OG,wpAny_letGo->OH,wpAny_dictEntries->OI,slot_list_getitem->OJ,getMethod_builtin->OK,wpAny_onRaise->ON,swapsWithSole->OO,plainId_quiet->OP,wpAny_isInstance->OV,updateSeq->OW,wpAny_typeOf->O7,wpAny_Name->O8,strKind_is->O9,codeAny->O',builtinsNs->Pa,wpAny_specialOf->Pf,wpAny_ite_split->Pg,codeAny_builtin->Ph,Scope->Pj,wpAny_updateSeq_pair->Pt,wpAny_setField->Pu,firstArgMember->Pv,atKey->Pw,Env->Py,eqIsQuiet->PC,wpAny_attempt->PN,field->PO,wpAny_pyIter_tuple->PT,wpAny_Constant_int->PU,slot_dict_getitem->P6,call_meetsIn->P7,callWith->P8,bindName->P9,Pos->Qk,newList->Qn,Thread->Qp,loadIfAlive->Qw,Model->Qx,wpAny_execs_nil->QB,wpAny_dictEpoch->QC,wpAny_newTuple->QN,isTrue->QO,assign->QP,wpAny_release->Q9,wpAny_getItem_list_slice->Q',attributeBase->Ra,wpAny_list_append_plain->Rf,getMethod->Rg,cellsFrom->Rh,wpAny_pyNext_list_item->Rq,relabel->Rr,notedBy->Rs,wpAny_storeName_local->RD,wpAny_pyNext_list_end->RE,wpAny_pyIter_listiter->RF,wpAny_notOrdered_dict->RG,wpAny_isOneOf_keyiter->RH,builtinLookup_eq_fast->RJ,wpAny_pyIter_keyiter->RW,wpAny_of_eq->RX,wpAny_loadName_local->RY,compEnvC->RZ,bindArgs->R1,ItemsAre->R2,HeapKind->R3,GenState->R4,wpAny_setItem_pairs->Se,wpAny_loadName_free->Sf,wpAny_loadName_cell->Sg,wpAny_isTrue_BoolOp->Sh,wpAny_setItem_heap->So,wpAny_pyHash_tuple->Sp,wpAny_delItem_slot->Sq,wpAny_call->Sr,wpAny_Constant_str->Ss,truthy->Su,PyData->Sx,KeyKind->Sy,Flow->Sz,wpAny_truthy_bool->SN,wpAny_pyIter_list->SO,wpAny_assign_Name->SP,foldedSetIterable->SQ,bindC->SR,OsState->SU,wpAny_getItem_of->S4,assignAll->S5,Step->S6,Sem->S7,Arguments->Td,wpAny_Dict_walk->Tm,typeLookup_type->Tn,size_of_entries->To,letOwnedTupleGo->Tp,importedModules->Tq,arm_exec_Assign->Tr,Fin->Tt,wpAny_fieldsOf->TA,recursionLimit->TB,pyIter->TC,newExc->TD,methodCallForm->TF,isSubtype_stop->TG,denote->TH,cellOf->TJ,callType_codes->TK,bindL->TL,binaryOp->TM,Reads->TQ,Data->TS,wpAny_newList->TV,wpAny_handled->TW,wpAny_UnaryOp->TX,methodCallPos->TY,evalPart_some->TZ,evalPart_none->T0,code_list_new->T2,behindInMarks->T3
open Option.some renaming inj->KP,injEq->OZ
open Nat renaming le_trans->KQ,le_of_eq->K2,lt_of_le_of_lt->K6,le_refl->K9,zero_le->Lf,lt_of_lt_of_le->Li,succ_le_succ->Lp,le_add_right->Lr,beq->Ly,not_succ_le_zero->Lz,le_succ_of_le->LH,le_of_lt->LJ,le_succ->LN,blt->LS,add_le_add_left->L2,lt_succ_self->L7,eq_of_beq_eq_true->Mc,le_antisymm->Md,le_of_ble_eq_true->Mq,lt_trans->Mx,casesOn->MT,mod_two_eq_zero_or_one->MY,succ_pos->M4,ne_of_lt->M5,sub_self->Nb,blt_eq->Nc,le_add_left->Ng,lt_irrefl->Ni,lt_succ_of_lt->No,zero_add->ND,mul_le_mul_left->NG,lt_add_of_pos_right->NP,ne_of_gt->N0,succ_le_of_lt->Ox,ne_of_beq_eq_false->OQ,lt_or_ge->OR,min_eq_left->OT,succ->Pd,add_le_add->Pe,add_lt_add_left->Pm,not_lt->Pz,lt_succ_of_le->PM,succ_lt_succ->PZ,min_le_left->Qg,add_sub_cancel_left->QI,rec->QT,eq_or_lt_of_le->Rw,add_sub_cancel->Rx,le_of_lt_succ->RO,succ_ne_zero->R8,min_le_right->R9,le_of_not_lt->R',add_assoc->S1,ble->Tf
open PySem.Str renaming ofString->KR,ofString_eq_toList->N4
open List renaming length_map->KS,mem_singleton->KU,length_append->KW,mem_cons_self->KX,mem_cons->KZ,mem_cons_of_mem->K1,mem_append->K8,mem_append_left->Lb,mem_append_right->Ld,append_assoc->Lj,append_nil->Lk,nodup_cons->Ll,map_append->Lm,mem_singleton_self->Lo,filterMap_cons->Lu,getElem?_append_right->Lx,map_cons->LC,mem_map->LG,length_cons->LK,casesOn->LP,getElem?_eq_some_iff->LU,length_range->L0,range->L3,lookup_cons->L5,all_eq_true->L6,getElem?_eq_getElem->L8,contains_iff_mem->Mb,nodup_append->Mj,pairwise_cons->Ml,getElem?_append_left->Mo,length_set->Mt,nodup_nil->Mw,map_congr_left->My,drop_eq_getElem_cons->ME,length_take->MH,getElem?_map->ML,mem_filter->MM,drop_of_length_le->MQ,not_mem_nil->MU,filter_cons->MV,length_filterMap_le->M7,forIn_cons->Nf,length_filter_le->Nj,foldl_append->Nk,mem_of_getElem?->Nt,getElem_mem->NA,map_take->NJ,map->NK,length_nil->NL,mem_filterMap->NM,take_of_length_le->NU,replicate->NV,filterMap->NW,length_replicate->N5,getElem?_eq_none->N6,take_append_of_le_length->Ob,flatten_append->Of,length->Ov,zipIdx_cons->OD,isEmpty_iff->OE,getElem?_cons_succ->OF,getElem?_set_self->OM,nil_append->OS,take_left->O4,getElem?_set_ne->O5,forIn_nil->O6,set_comm->Pn,filterMap_nil->Ps,toArray->PF,take_succ_eq_append_getElem->PG,reverse_cons->PH,mem_of_find?_eq_some->Qt,getElem?_zip_eq_some->Qu,getElem?_eq_none_iff->Qv,getLast?_cons_cons->QE,getElem?_replicate->QF,eraseIdx_cons_succ->QG,map_map->QJ,take_append_drop->QU,set_getElem_self->QV,eq_nil_or_concat->QW,dropLast_eq_take->QX,concat_eq_append->QY,replicate_succ'->Q5,mem_of_mem_take->Q6,drop_eq_nil_iff->Q7,contains_eq_mem->Q8,map_eq_nil_iff->Rc,length_take_le->Rd,zip_cons_cons->Rk,getElem_range->Rl,getElem?_take->Rm,filterMap_map->Rn,size_toArray->Ry,mapM_toArray->Rz,any_eq_false->RA,mem_flatten->RP,getElem_map->RQ,ext_getElem->RR,cons_ne_nil->RS,append_cons->RT,any_eq_true->RU,zipIdx_nil->Sa,of_mem_zip->Sb,length_zip->Sc,mem_range->Sl,drop_drop->Sm,take_nil->SH,any_cons->SJ,set_set->S2,lookup->Th,rec->T8
open Or renaming elim->K4
open PySem.Heap renaming get?_push_of_some->K5,get?_push_size->La,lt_size->Lv,ExtBut->LZ,get?_update_self->Ma,get?_update_other->Mm,SameBut->MP,size_push->MX,size_update->Nz,get?_push_ne->Ru,get?->RL,IsTuple->SV
open Array renaming length_toList->Lq,getElem?_eq_getElem->MB,getElem?_eq_none_iff->Ol,forIn_toList->Om,eraseIdxIfInBounds->Ow,mem_toList_iff->O0,toList_push->PB,size_push->P0,getElem?_eq_some_iff->Qi,toList_eraseIdx->QL,getElem?_toList->QM,toList_inj->RC,toList->SM,getD->Tl
open PySem.Builtin.SmallTypes renaming nextOf->Lw,ownedTupleIsFree->LA,ownedTupleHandOut->On
open Bool renaming and_eq_true->LL,false_ne_true->L9,false_eq_true->L',or_eq_true->MA,noConfusion->PR,eq_iff_iff->P5,or_false->SK,not_true->SL
open Int renaming natCast_nonneg->LO,toNat_natCast->Mz,le_trans->MI,ofNat_le->MS,ofNat_lt->Nd,ne_of_gt->Ok,emod_lt_of_pos->Os,emod_nonneg->OU,eq_ofNat_of_zero_le->QK,le_of_lt->QZ,toNat_of_nonneg->Ro,not_lt->RB,natCast_pos->Sn,lt_irrefl->S3,neg_neg->Tz,toNat->T9
open Prod.mk renaming inj->LQ
open List.cons renaming inj->LR,injEq->PA
open PySem.Builtin.List renaming listExtendWith->L4,listLengthHint->M',listSameRef->Nn,listItems->NE,listUpdate->PL,listTooLong->Tu
open PySem.Value renaming none->Mg,ref->MG,type->M3,isInt_shape->Px,int->PJ,isStrOf_shape->Q0
open ForInStep renaming yield->Mk
open PySem.F renaming slot_dict_keyiterator_next->Mr,plain_extend_loop->M1,slot_dict_delitem->Nr,slot_tuple_iterator_next->NB,args_dict_keyiterator_next_1->OX,slot_zip_next->O1,slot_dict_get->O2,entry_dict_keyiterator_next->O3,args_dict_delitem_2->PP,plainAttrs_list->PW,entry_dict_delitem->PX,entry_dict_get->Qc,plain_list_iadd->Ql,slot_dict_iter->Qq,args_tuple_iterator_next_1->Qr,entry_tuple_iterator_next->Qz,args_list_init_2->QR,typeCall_list_1->Q1,entry_list_init->Q2,entry_extend_loop->RM,called_list->RN,slot_list_extend->R5,args_zip_next_1->Sj,args_dict_get_2->Sk,entry_zip_next->SA,slot_list_pop->SX
open PySem.Heap.SameBut renaming update->Mv
open PySem.Challenge renaming rw_no0014_01->MD,pw_no0014_01->SB
open PyProof.Rows renaming seqObj->MR,assignInOrder_cons->NZ,tail_any->OA,callWith_type->Pr,pairsOf->PE,tuples'->Qd,spliced_more->Qe,IntsAre->Qf,listUpdate_at->Rb,spliced_none->Rv,seqEpoch_at->R6,sortedHeap->SC,slot_tuple_getitem->SD,Subscript_->SF,assignInOrder_nil->SZ,zipApart_new->Tx,dictOfH_noDict->TU,subscriptTail->T6,getItem_tuple->T7
open PySem.NameKind renaming free->Na,cell->P3
open PySem.PyData renaming eqv->Nl,depthAll->N',canLayAll0->Oq,eqvAll->Ot,int->OB,depth->Pp,canLay0->P1,list->QH,keyHash->RK,strOk->Si
open PySem.Around renaming under_plainId->N7,in1_units->Rj
open PySem.W renaming instObj->N9,emptyDict->Oe,Frag->Pb,findIn->Qo,dictOf->QQ,topRun->Rt,keepIn->Sv,putL->TN,kas_item->TP
open List.Perm renaming refl->Oc,swap->Re
open Nat.Internal.Linear renaming Context->Og,Expr->Qh
open PySem.Calls renaming Name_function_global->Oj,evalArgs_plain->OY,loadGlobal_global->QA,callWith_builtin->QD
open PySem.Builtin.Dict_items renaming ownsTuple->OL
open PySem.Flow renaming next->Pc
open Nat.succ renaming inj->Pk
open PySem.Heap.DictOf renaming new->Pl
open PySem.Builtin.Tuple renaming tupleHashOf->Pq,tupleItemsOf->S9
open PySem.Builtin.Range renaming rangeSize->PD,small->Ta,rangeFitsLong->Tc
open PySem.Builtin renaming divisionGoesByPylong->PK
open Classical renaming byContradiction->PQ
open PySem.Builtin.Dict renaming showsAll->PY,takeOut->P4,dictSlotNone->Tv,dictSlotArgs->Tw
open PySem.W.WData renaming bool->P'
open PySem.W.Fast renaming tw14364793385576792824->Qa,te14364793385576792824->Qb,tw1435165496053646825->Qj
open List.Pairwise renaming nil->Qm,map->Ti
open Ne renaming symm->Qs
open PySem.Heap.DictOfH renaming new->Qy
open PySem.DictEntry renaming refKey->QS
open PyProof.Rows.SortSt renaming mk'->Q3
open PySem.Obj renaming cls->Ri
open Eq renaming trans->Rp
open String renaming ofList->RV
open And renaming intro->Sd
open PySem.Shared renaming heap->Sw
open PySem.Heap.IsSliceOf renaming new->SW
open PySem.Code renaming builtin->SY
open PySem.IsiPair renaming list_list->S8
open PUnit renaming unit->Te
open Iff renaming rfl->Tj,of_eq->T'
open False renaming elim->Tk
open PySem.Heap.IsTuple renaming push->Ts
open PySem.IsL renaming update->TR
open PySem.AutoIntOps renaming mod_1->T4,floordiv_1->T5
open Array.Perm renaming refl->Ua
namespace ai
@[elab_as_elim] theorem Z{c:Sort u}{a b:c}{P:c->Prop}(e:a=b)(h:P b):P a:=e▸h
@[elab_as_elim] theorem hR{c:Sort u}{a b:c}{P:c->Prop}(e:b=a)(h:P b):P a:=e▸h
@[elab_as_elim] theorem iR{a b:Prop}{P:Prop->Prop}(e:a↔b)(h:P b):P a:=propext e▸h
@[elab_as_elim] theorem jR{a b:Prop}{P:Prop->Prop}(e:b↔a)(h:P b):P a:=propext e▸h
theorem Er{p p1 P:Prop}(h:p)(H:p1)(a:P):p/\p1/\P:=⟨h,H,a⟩
theorem vV{p p1 P a:Prop}(h:p)(H:p1)(b:P)(c:a):p/\p1/\P/\a:=⟨h,H,b,c⟩
theorem FH{p p1 P a p4:Prop}(h:p)(H:p1)(b:P)(c:a)(d:p4):p/\p1/\P/\a/\p4:=⟨h,H,b,c,d⟩
theorem Je{p p1 P a p4 b:Prop}(h:p)(H:p1)(c:P)(d:a)(e:p4)(f:b):p/\p1/\P/\a/\p4/\b:=⟨h,H,c,d,e,f⟩
section
variable {p0 p1 p2 p3 p4 p5 p6 p7 g:Prop}
theorem ay(h:p0/\p1)(k:p0->p1->g):g:=k h.1 h.2
theorem cH(h:p0/\p1/\p2)(k:p0->p1->p2->g):g:=ay h.2 (k h.1)
theorem fe(h:p0/\p1/\p2/\p3)(k:p0->p1->p2->p3->g):g:=cH h.2 (k h.1)
theorem oW(h:p0/\p1/\p2/\p3/\p4)(k:p0->p1->p2->p3->p4->g):g:=fe h.2 (k h.1)
theorem GN(h:p0/\p1/\p2/\p3/\p4/\p5)(k:p0->p1->p2->p3->p4->p5->g):g:=oW h.2 (k h.1)
theorem uV(h:p0/\p1/\p2/\p3/\p4/\p5/\p6)(k:p0->p1->p2->p3->p4->p5->p6->g):g:=GN h.2 (k h.1)
theorem xS(h:p0/\p1/\p2/\p3/\p4/\p5/\p6/\p7)(k:p0->p1->p2->p3->p4->p5->p6->p7->g):g:=uV h.2 (k h.1)
end
section
variable {A0:Type} {p0 p1 p2 p3 p4 p5:A0->Prop} {g:Prop}
theorem cY(h:∃x,p0 x)(k:∀x,p0 x->g):g:=h.elim k
theorem aD(h:∃X,p0 X/\p1 X)(k:∀X,p0 X->p1 X->g):g:=h.elim λx h=>ay h (k x)
theorem gw(h:∃X,p0 X/\p1 X/\p2 X)(k:∀X,p0 X->p1 X->p2 X->g):g:=h.elim λx h=>cH h (k x)
theorem ll(h:∃X,p0 X/\p1 X/\p2 X/\p3 X)(k:∀X,p0 X->p1 X->p2 X->p3 X->g):g:=h.elim λx h=>fe h (k x)
theorem il(h:∃X,p0 X/\p1 X/\p2 X/\p3 X/\p4 X)(k:∀X,p0 X->p1 X->p2 X->p3 X->p4 X->g):g:=h.elim λx h=>oW h (k x)
theorem Hh(h:∃X,p0 X/\p1 X/\p2 X/\p3 X/\p4 X/\p5 X)(k:∀X,p0 X->p1 X->p2 X->p3 X->p4 X->p5 X->g):g:=h.elim λx h=>GN h (k x)
end
section
variable {A0 A1:Type} {p0 p1 p2 p3 p4 p5 p6 p7:A0->A1->Prop} {g:Prop}
theorem g1(h:∃X a,p0 X a)(k:∀X a,p0 X a->g):g:=h.elim λx h=>cY h (k x)
theorem eB(h:∃X a,p0 X a/\p1 X a)(k:∀X a,p0 X a->p1 X a->g):g:=h.elim λx h=>aD h (k x)
theorem cR(h:∃X a,p0 X a/\p1 X a/\p2 X a)(k:∀X a,p0 X a->p1 X a->p2 X a->g):g:=h.elim λx h=>gw h (k x)
theorem yJ(h:∃X a,p0 X a/\p1 X a/\p2 X a/\p3 X a)(k:∀X a,p0 X a->p1 X a->p2 X a->p3 X a->g):g:=h.elim λx h=>ll h (k x)
theorem Gq(h:∃X a,p0 X a/\p1 X a/\p2 X a/\p3 X a/\p4 X a/\p5 X a)(k:∀X a,p0 X a->p1 X a->p2 X a->p3 X a->p4 X a->p5 X a->g):g:=h.elim λx h=>Hh h (k x)
theorem G2(h:∃X a,p0 X a/\p1 X a/\p2 X a/\p3 X a/\p4 X a/\p5 X a/\p6 X a/\p7 X a)(k:∀X a,p0 X a->p1 X a->p2 X a->p3 X a->p4 X a->p5 X a->p6 X a->p7 X a->g):g:=h.elim λx h=>h.elim λy h=>xS h (k x y)
end
section
variable {A0 A1 A2:Type} {p0 p1 p2 p3 p4 p5:A0->A1->A2->Prop} {g:Prop}
theorem Jr(h:∃X a b,p0 X a b)(k:∀X a b,p0 X a b->g):g:=h.elim λx h=>g1 h (k x)
theorem ts(h:∃X a b,p0 X a b/\p1 X a b)(k:∀X a b,p0 X a b->p1 X a b->g):g:=h.elim λx h=>eB h (k x)
theorem rh(h:∃X a b,p0 X a b/\p1 X a b/\p2 X a b)(k:∀X a b,p0 X a b->p1 X a b->p2 X a b->g):g:=h.elim λx h=>cR h (k x)
theorem rk(h:∃X a b,p0 X a b/\p1 X a b/\p2 X a b/\p3 X a b)(k:∀X a b,p0 X a b->p1 X a b->p2 X a b->p3 X a b->g):g:=h.elim λx h=>yJ h (k x)
theorem Cc(h:∃X a b,p0 X a b/\p1 X a b/\p2 X a b/\p3 X a b/\p4 X a b)(k:∀X a b,p0 X a b->p1 X a b->p2 X a b->p3 X a b->p4 X a b->g):g:=h.elim λx h=>h.elim λy h=>il h (k x y)
theorem u6(h:∃X a b,p0 X a b/\p1 X a b/\p2 X a b/\p3 X a b/\p4 X a b/\p5 X a b)(k:∀X a b,p0 X a b->p1 X a b->p2 X a b->p3 X a b->p4 X a b->p5 X a b->g):g:=h.elim λx h=>Gq h (k x)
end
section
variable {A0 A1 A2 A3:Type} {p0 p1 p2 p3 p4 p5:A0->A1->A2->A3->Prop} {g:Prop}
theorem Jh(h:∃X a b x3,p0 X a b x3)(k:∀X a b x3,p0 X a b x3->g):g:=h.elim λx h=>Jr h (k x)
theorem q1(h:∃X a b x3,p0 X a b x3/\p1 X a b x3)(k:∀X a b x3,p0 X a b x3->p1 X a b x3->g):g:=h.elim λx h=>ts h (k x)
theorem pk(h:∃X a b x3,p0 X a b x3/\p1 X a b x3/\p2 X a b x3)(k:∀X a b x3,p0 X a b x3->p1 X a b x3->p2 X a b x3->g):g:=h.elim λx h=>rh h (k x)
theorem ta(h:∃X a b x3,p0 X a b x3/\p1 X a b x3/\p2 X a b x3/\p3 X a b x3)(k:∀X a b x3,p0 X a b x3->p1 X a b x3->p2 X a b x3->p3 X a b x3->g):g:=h.elim λx h=>rk h (k x)
theorem B2(h:∃X a b x3,p0 X a b x3/\p1 X a b x3/\p2 X a b x3/\p3 X a b x3/\p4 X a b x3)(k:∀X a b x3,p0 X a b x3->p1 X a b x3->p2 X a b x3->p3 X a b x3->p4 X a b x3->g):g:=h.elim λx h=>Cc h (k x)
theorem Ko(h:∃X a b x3,p0 X a b x3/\p1 X a b x3/\p2 X a b x3/\p3 X a b x3/\p4 X a b x3/\p5 X a b x3)(k:∀X a b x3,p0 X a b x3->p1 X a b x3->p2 X a b x3->p3 X a b x3->p4 X a b x3->p5 X a b x3->g):g:=h.elim λx h=>u6 h (k x)
end
section
variable {A0 A1 A2 A3 A4:Type} {p0 p1 p2 p3 p4:A0->A1->A2->A3->A4->Prop} {g:Prop}
theorem JJ(h:∃X a b x3 c,p0 X a b x3 c)(k:∀X a b x3 c,p0 X a b x3 c->g):g:=h.elim λx h=>Jh h (k x)
theorem Jb(h:∃X a b x3 c,p0 X a b x3 c/\p1 X a b x3 c/\p2 X a b x3 c/\p3 X a b x3 c)(k:∀X a b x3 c,p0 X a b x3 c->p1 X a b x3 c->p2 X a b x3 c->p3 X a b x3 c->g):g:=h.elim λx h=>ta h (k x)
theorem EQ(h:∃X a b x3 c,p0 X a b x3 c/\p1 X a b x3 c/\p2 X a b x3 c/\p3 X a b x3 c/\p4 X a b x3 c)(k:∀X a b x3 c,p0 X a b x3 c->p1 X a b x3 c->p2 X a b x3 c->p3 X a b x3 c->p4 X a b x3 c->g):g:=h.elim λx h=>B2 h (k x)
end
section
variable {A0 A1 A2 A3 A4 A5:Type} {p0 p1 p2 p3:A0->A1->A2->A3->A4->A5->Prop} {g:Prop}
theorem IC(h:∃X a b x3 c d,p0 X a b x3 c d)(k:∀X a b x3 c d,p0 X a b x3 c d->g):g:=h.elim λx h=>JJ h (k x)
theorem xj(h:∃X a b x3 c d,p0 X a b x3 c d/\p1 X a b x3 c d/\p2 X a b x3 c d/\p3 X a b x3 c d)(k:∀X a b x3 c d,p0 X a b x3 c d->p1 X a b x3 c d->p2 X a b x3 c d->p3 X a b x3 c d->g):g:=h.elim λx h=>Jb h (k x)
end
open Nat.Internal.Linear (Expr ExprCnstr Context)
@[reducible] noncomputable def IP(x:Og)(P:Prop):List (Nat×Qh×Qh)->Prop
 |[]=>P
 |(_,a,b)::r=>a.denote x<=b.denote x->IP x P r
noncomputable def I2(s t:Qh):List (Nat×Qh×Qh)->ExprCnstr
 |[]=>⟨false,s,t⟩
 |(k,a,b)::r=>I2 (.add s (.mulL k b)) (.add t (.mulL k a)) r
@[reducible] noncomputable def Jz:List Qh->List (Nat×Qh×Qh)
 |.num k::a::b::r=>(k,a,b)::Jz r
 |_=>[]
@[reducible] def JZ(x:Og):List Qh->Prop
 |a::b::r=>IP x (a.denote x<=b.denote x) (Jz r)
 |_=>True
noncomputable def JW:List Qh->Bool
 |a::b::r=>(I2 a b (Jz r)).toNormPoly.isValid
 |_=>true
@[reducible] noncomputable def CZ:Nat->Nat->List Qh->List Qh
 |0,_,s=>s
 |f+1,n,s=>match n with
  |0=>s
  |m+1=>match(m+1) %16 with
   |1=>(match s with |b::a::s=>CZ f ((m+1)/16) (.add a b::s) |s=>s)
   |2=>(match s with |a::.num k::s=>CZ f ((m+1)/16) (.mulL k a::s) |s=>s)
   |3=>CZ f ((m+1)/256) (.num ((m+1)/16 %16)::s)
   |4=>CZ f ((m+1)/4096) (.num ((m+1)/16 %256)::s)
   |5=>CZ f ((m+1)/16777216) (.num ((m+1)/16 %1048576)::s)
   |6=>CZ f ((m+1)/68719476736) (.num ((m+1)/16 %4294967296)::s)
   |d=>CZ f ((m+1)/16) (.var (d-7)::s)
theorem F5{P:Prop}(l:List (Nat×Qh×Qh)):∀{s t:Qh},(s.denote x<=t.denote x->P)->(I2 s t l).denote x->IP x P l:=by
 induction l with
 |nil=>exact λq h=>q h
 |cons e r i=>exact λq h c=>i (λg=>q (Nat.le_of_add_le_add_right (KQ g (L2 (NG e.1 c) _)))) h
theorem Kj:∀{l:List Qh},JW l=true->JZ x l
 |[],_=>trivial
 |[_],_=>trivial
 |a::b::r,ok=>F5 (s:=a) (t:=b) _ id (of_eq_true (ExprCnstr.eq_true_of_isValid x _ ok))
theorem bM(x:Og)(n:Nat)(ok:JW (CZ 99 n [])=true):JZ x (CZ 99 n []):=Kj ok
noncomputable abbrev kS(a:Nat):Og:=.leaf a
noncomputable abbrev gF(a b:Nat):Og:=.branch 1 (.leaf a) (.leaf b)
noncomputable abbrev io(a b c:Nat):Og:=.branch 1 (.leaf a) (.branch 2 (.leaf b) (.leaf c))
noncomputable abbrev lN(a b c d:Nat):Og:=.branch 1 (.leaf a) (.branch 2 (.leaf b) (.branch 3 (.leaf c) (.leaf d)))
noncomputable abbrev JN(a b c d e:Nat):Og:=.branch 1 (.leaf a) (.branch 2 (.leaf b) (.branch 3 (.leaf c) (.branch 4 (.leaf d) (.leaf e))))
noncomputable abbrev KH(a b c d e f:Nat):Og:=.branch 1 (.leaf a) (.branch 2 (.leaf b) (.branch 3 (.leaf c) (.branch 4 (.leaf d) (.branch 5 (.leaf e) (.leaf f)))))
noncomputable abbrev KI(a b c d e f g:Nat):Og:=.branch 1 (.leaf a) (.branch 2 (.leaf b) (.branch 3 (.leaf c) (.branch 4 (.leaf d) (.branch 5 (.leaf e) (.branch 6 (.leaf f) (.leaf g))))))
set_option genInjectivity true in
structure cq where
 k:Nat
 t:Int
 n:Nat
deriving DecidableEq
inductive V where
 |none |bool (b:Bool) |int (i:Int) |str (s:String)
 |aA (l:List V) |fl (l:List V) |eQ (C:String) (r:cq) |ref (r:cq) |yC (n:Int)
set_option genInjectivity true in
inductive d2 where
 |int (i:Int)
 |gJ (l:List Int)
deriving DecidableEq
set_option genInjectivity true in
structure bQ where
 op:String
 args:List Int
 oU:Int
 data:d2
deriving DecidableEq
inductive Obj where
 |list (xs:List V)
 |dI (es:List (Int×V)) |dS (es:List (String×V)) |dP (es:List (List Int×V)) |dN (es:List (bQ×V))
section
variable {K α:Type} [DecidableEq K]
noncomputable def bc:List (K×α)->K->Option α
 |[],_=>.none
 |(k,v)::r,x=>if k=x then U v else bc r x
noncomputable def bA:List (K×α)->K->α->List (K×α)
 |[],x,v=>[(x,v)]
 |(k,w)::r,x,v=>if k=x then(k,v)::r else(k,w)::bA r x v
noncomputable def gi:List (K×α)->K->List (K×α)
 |[],_=>[]
 |(k,w)::r,x=>if k=x then gi r x else(k,w)::gi r x
theorem n4{x:K}:bc ([]:List (K×α)) x=KT:=rfl
theorem hu{k x:K}{v:α}{r:List (K×α)}:bc ((k,v)::r) x=if k=x then U v else bc r x:=rfl
theorem dW{x:K}{v:α}:bA [] x v=[(x,v)]:=rfl
theorem db{k x:K}{v w:α}{r:List (K×α)}:bA ((k,w)::r) x v=if k=x then(k,v)::r else(k,w)::bA r x v:=rfl
theorem ir{x:K}:gi ([]:List (K×α)) x=[]:=rfl
theorem hy{k x:K}{w:α}{r:List (K×α)}:gi ((k,w)::r) x=if k=x then gi r x else(k,w)::gi r x:=rfl
end
structure Hp where
 o:cq->Option Obj
 e4:cq->Nat
 n:Nat
end ai
namespace ai.Hp
noncomputable def set(h:Hp)(r:cq)(x:Obj):Hp:=⟨λq=>if q=r then U x else h.o q,λq=>if q=r then h.e4 r+1 else h.e4 q,h.n⟩
noncomputable def mk'(h:Hp)(k:Nat)(t:Int):cq:=⟨k,t,h.n⟩
noncomputable def new(h:Hp)(k:Nat)(t:Int)(x:Obj):Hp:=⟨λq=>if q=⟨k,t,h.n⟩ then U x else h.o q,λq=>if q=⟨k,t,h.n⟩ then 0 else h.e4 q,h.n+1⟩
noncomputable def drop(h:Hp)(r:cq):Hp:=⟨λq=>if q=r then .none else h.o q,h.e4,h.n⟩
end ai.Hp
namespace ai
def bB{b:Type}(o:Option b)(p:b->Prop):Prop:=match o with |some a=>p a |.none=>False
inductive BV{b:Type}(o:Option b)(p:b->Prop):Prop
 |mk (a:b) (e:o=U a) (q:p a)
theorem aQ{b:Type}{o:Option b}{p:b->Prop}(h:bB o p):BV o p:=by
 cases o with
 |none=>exact h.elim
 |some a=>exact⟨a,rfl,h⟩
theorem E5{b:Type}{o:Option b}{p:b->Prop}{a:b}(e:o=U a)(h:bB o p):p a:=by rw[e] at h;exact h
theorem ab{b:Type}{o:Option b}{p:b->Prop}{a:b}(e:o=U a)(h:p a):bB o p:=by rw[e];exact h
abbrev aV:=List (Option V)
abbrev PV:=V->Hp->Prop
noncomputable def aN:Nat:=1000000
noncomputable def mD:Int:=1000000000000
inductive Op where |add |sub |mul |IV |CV
inductive Cm where |eq |ne |lt |le |gt |ge |dK |eY |is |oM
inductive BI where |cQ |list |tuple |sorted |e' |range |min |max |int |g8 |dict
inductive DK where
 |str (s:String)
 |var (i:Nat)
inductive Ex where
 |aE (c:V)
 |var (i:Nat)
 |c4 (x:String)
 |ao (e:Ex) (f:String)
 |sub (e i:Ex)
 |gk (e h:Ex)
 |ED (e:Ex)
 |aA (es:List Ex)
 |list (es:List Ex)
 |dict (k:List DK) (vs:List Ex)
 |hQ (op:Op) (a b:Ex)
 |bV (op:Cm) (a b:Ex)
 |not (a:Ex)
 |and (es:List Ex)
 |or (es:List Ex)
 |cG (c a b:Ex)
 |call (f:String) (es:List Ex)
 |az (e:Ex) (m:String) (es:List Ex)
 |bi (b:BI) (es:List Ex)
 |new (C:String) (es:List Ex)
 |comp (elt:Ex) (s:Nat) (it:Ex) (cond:Option Ex)
inductive Tg where
 |var (i:Nat)
 |ao (e:Ex) (f:String)
 |sub (e i:Ex)
 |aA (t:List Tg)
inductive St where
 |expr (e:Ex)
 |a8 (t:Tg) (e:Ex)
 |md (e i:Ex)
 |cG (c:Ex) (a b:List St)
 |while (c:Ex) (b:List St)
 |for (t:Tg) (e:Ex) (b:List St)
 |ret (e:Ex)
 |raise
noncomputable def V.fF:V->Option Int
 |.int i=>U i
 |_=>.none
noncomputable def V.xR:V->Option String
 |.str i=>U i
 |_=>.none
noncomputable def V.rG:V->Option (List V)
 |.aA i=>U i
 |_=>.none
noncomputable def V.ud:V->Option cq
 |.ref i=>U i
 |_=>.none
noncomputable def mB:List V->Option V
 |[v]=>U v
 |_=>.none
noncomputable def xy:List V->Option (V×V)
 |[v,w]=>U (v,w)
 |_=>.none
noncomputable def iq:List V->Option (List Int)
 |[]=>U []
 |v::r=>v.fF.bind λi=>(iq r).map λl=>i::l
noncomputable def ae(l:List Int):List V:=l.map V.int
noncomputable def Obj.ip:Obj->Option (List V)
 |.list xs=>U xs
 |_=>.none
noncomputable def ca(h:Hp):V->Option (List V)
 |.fl xs=>U xs
 |.ref r=>(h.o r).bind Obj.ip
 |_=>.none
noncomputable def J0:List Int->List Int->Bool
 |[],_=>true
 |_::_,[]=>false
 |a::x,b::y=>if a=b then J0 x y else decide (a<b)
section
variable {α:Type} (le:α->α->Bool)
noncomputable def jU(a:α):List α->List α
 |[]=>[a]
 |b::r=>if le a b then a::b::r else b::jU a r
theorem yR{a:α}:jU le a []=[a]:=rfl
theorem pO{a b:α}{r:List α}:jU le a (b::r)=if le a b then a::b::r else b::jU le a r:=rfl
noncomputable def Ai:List α->List α
 |[]=>[]
 |a::r=>jU le a (Ai r)
end
noncomputable def cE(l:List Int):List Int:=Ai (λa b=>decide (a<=b)) l
noncomputable def JQ(l:List (List Int)):List (List Int):=Ai J0 l
noncomputable def df(v:V):Option (List Int):=v.rG.bind iq
noncomputable def Dv:List V->Option (V×V×V×V)
 |[a,b,c,d]=>U (a,b,c,d)
 |_=>.none
noncomputable def wq(op:String)(l:List Int)(s:Int):V->Option bQ
 |.int d=>if op="num" then .none else U ⟨op,l,s,.int d⟩
 |.aA d=>(iq d).bind λe=>if op="num" then U ⟨op,l,s,.gJ e⟩ else .none
 |_=>.none
noncomputable def gC(v:V):Option bQ:=(v.rG.bind Dv).bind λq=>q.1.xR.bind λop=>(df q.2.1).bind λl=>q.2.2.1.fF.bind λs=>wq op l s q.2.2.2
noncomputable def truthy:V->Option Bool
 |.bool b=>U b
 |_=>.none
noncomputable def V.th:V->Bool
 |.none=>true
 |.bool _=>true
 |.int _=>true
 |.str _=>true
 |_=>false
noncomputable def V.hi:Nat->V->Bool
 |0,v=>v.th
 |n+1,v=>match v with
  |.aA l=>l.all (V.hi n)
  |.fl l=>l.all (V.hi n)
  |v=>v.th
noncomputable def V.isNone:V->Bool
 |.none=>true
 |_=>false
noncomputable def V.FY(a:Bool):V->Bool
 |.bool b=>a==b
 |.int j=>(if a then 1 else 0)==j
 |_=>false
noncomputable def V.isInt(i:Int):V->Bool
 |.bool b=>i==(if b then 1 else 0)
 |.int j=>i==j
 |_=>false
noncomputable def V.isStr(x:String):V->Bool
 |.str y=>x==y
 |_=>false
mutual
noncomputable def V.same:V->V->Bool
 |.none,b=>b.isNone
 |.bool a,b=>b.FY a
 |.int i,b=>b.isInt i
 |.str x,b=>b.isStr x
 |.fl xs,b=>(match b with |.fl ys=>V.kz xs ys |_=>false)
 |.aA xs,b=>(match b with |.aA ys=>V.kz xs ys |_=>false)
 |_,_=>false
noncomputable def V.kz:List V->List V->Bool
 |[],b=>b.isEmpty
 |x::xs,b=>(match b with |[]=>false |y::ys=>V.same x y&&V.kz xs ys)
end
noncomputable def res(h:Hp):V->V
 |.ref r=>match(h.o r).bind Obj.ip with
  |some xs=>.fl xs
  |.none=>.ref r
 |v=>v
noncomputable def eqv(h:Hp)(a b:V):Option Bool:=if(res h a).hi 8&&(res h b).hi 8 then U ((res h a).same (res h b)) else .none
noncomputable def k2:List V->Option (List String)
 |[]=>U []
 |v::r=>v.xR.bind λi=>(k2 r).map λl=>i::l
noncomputable def kx(xs:List V)(k:V):Option Bool:=if xs.all (V.hi 7)&&k.hi 7 then U (xs.any λy=>y.same k) else .none
noncomputable def Obj.dK(k:V):Obj->Option Bool
 |.list xs=>kx xs k
 |.dI es=>k.fF.map λi=>(bc es i).isSome
 |.dS _=>.none
 |.dP es=>(df k).map λi=>(bc es i).isSome
 |.dN _=>.none
noncomputable def dK(h:Hp)(k:V):V->Option Bool
 |.fl xs=>kx xs k
 |.aA xs=>kx xs k
 |.ref r=>(h.o r).bind (Obj.dK k)
 |_=>.none
noncomputable def no{c:Type}(f:Int->Int->c)(a b:V):Option c:=a.fF.bind λi=>b.fF.map λj=>f i j
noncomputable def V.Kq:V->Option Bool
 |.none=>U true
 |.str _=>.none
 |.yC _=>.none
 |_=>U false
noncomputable def V.Df(a:V):V->Option Bool
 |.none=>a.Kq
 |_=>.none
noncomputable def gI(h:Hp)(c:Cm)(a b:V):Option Bool:=match c with
 |.eq=>eqv h a b
 |.ne=>(eqv h a b).map (!·)
 |.lt=>no (λi j=>decide (i<j)) a b
 |.le=>no (λi j=>decide (i<=j)) a b
 |.gt=>no (λi j=>decide (j<i)) a b
 |.ge=>no (λi j=>decide (j<=i)) a b
 |.dK=>dK h a b
 |.eY=>(dK h a b).map (!·)
 |.is=>a.Df b
 |.oM=>(a.Df b).map (!·)
noncomputable def jr(xs:List V)(i:Int):Option V:=if 0<=i then xs[i.toNat]?else if 0<=i+xs.length then xs[(i+xs.length).toNat]?else .none
noncomputable def Obj.sub(k:V):Obj->Option V
 |.list xs=>k.fF.bind (jr xs)
 |.dI es=>k.fF.bind (bc es)
 |.dS es=>k.xR.bind (bc es)
 |.dP es=>(df k).bind (bc es)
 |.dN _=>.none
noncomputable def lu(h:Hp)(c k:V):Option V:=match c with
 |.fl xs=>k.fF.bind (jr xs)
 |.aA xs=>k.fF.bind (jr xs)
 |.ref r=>(h.o r).bind (Obj.sub k)
 |_=>.none
@[irreducible] def newList(xs:List V)(Q:PV)(h:Hp):Prop:=xs.length<=aN/\(Q (.fl xs) h\/∃k t,Q (.ref ⟨k,t,h.n⟩) (h.new k t (.list xs)))
theorem gT(q:newList xs Q h):xs.length<=aN:=by unfold newList at q;exact q.1
def fits(i:Int):Prop:= -mD<=i/\i<=mD
def h0(a b:V)(P:Int->Int->Prop):Prop:=bB a.fF λi=>bB b.fF λj=>P i j
def Ji(a b:V)(Q:PV)(h:Hp):Prop:=match a with
 |.int i=>bB b.fF λj=>fits i/\fits j/\Q (.int (i+j)) h
 |.aA xs=>bB b.rG λys=>xs≠[]/\ys≠[]/\xs.length+ys.length<=aN/\Q (.aA (xs++ys)) h
 |a=>bB (ca h a) λxs=>bB (ca h b) λys=>xs.length<=aN/\ys.length<=aN/\newList (xs++ys) Q h
def sQ(op:Op)(a b:V)(Q:PV)(h:Hp):Prop:=match op with
 |.add=>Ji a b Q h
 |.sub=>h0 a b λa b=>fits a/\fits b/\Q (.int (a-b)) h
 |.mul=>h0 a b λa b=>fits a/\fits b/\Q (.int (a*b)) h
 |.IV=>h0 a b λa b=>0<b/\fits a/\Q (.int (a/b)) h
 |.CV=>h0 a b λa b=>0<b/\Q (.int (a %b)) h
def Obj.D4(k v:V)(P:Obj->Prop):Obj->Prop
 |.list _=>False
 |.dI es=>bB k.fF λi=>es.length<aN/\P (.dI (bA es i v))
 |.dS es=>bB k.xR λi=>es.length<aN/\P (.dS (bA es i v))
 |.dP es=>bB (df k) λi=>es.length<aN/\P (.dP (bA es i v))
 |.dN es=>bB (gC k) λi=>es.length<aN/\P (.dN (bA es i v))
def gy(h:Hp)(c k v:V)(Q:Hp->Prop):Prop:=bB c.ud λr=>bB (h.o r) λo=>o.D4 k v λx=>Q (h.set r x)
def Obj.md(k:V)(P:Obj->Prop):Obj->Prop
 |.dI es=>bB k.fF λi=>(bc es i).isSome=true/\es.length<=aN/\P (.dI (gi es i))
 |.dP es=>bB (df k) λi=>(bc es i).isSome=true/\es.length<=aN/\P (.dP (gi es i))
 |_=>False
def AB(h:Hp)(c k:V)(Q:Hp->Prop):Prop:=bB c.ud λr=>bB (h.o r) λo=>o.md k λx=>Q (h.set r x)
noncomputable def DK.val(a:aV):DK->Option V
 |.str s=>U (.str s)
 |.var i=>(a[i]?).join
noncomputable def DK.vals(a:aV):List DK->Option (List V)
 |[]=>U []
 |k::r=>(k.val a).bind λv=>(DK.vals a r).map λl=>v::l
def dH(K vs:List V)(Q:PV)(h:Hp):Prop:=
 match K with
 |[]=>(match vs with
  |[]=>(∃k t,Q (.ref ⟨k,t,h.n⟩) (h.new k t (.dI [])))\/(∃k t,Q (.ref ⟨k,t,h.n⟩) (h.new k t (.dP [])))\/(∃k t,Q (.ref ⟨k,t,h.n⟩) (h.new k t (.dN [])))
  |_=>False)
 |k::K=>(match k with
  |.int i=>(match K with
   |[]=>bB (mB vs) λv=>∃k t,Q (.ref ⟨k,t,h.n⟩) (h.new k t (.dI [(i,v)]))
   |_=>False)
  |k=>bB (k2 (k::K)) λl=>l.Nodup/\l.length=vs.length/\l.length<=15/\∃k t,Q (.ref ⟨k,t,h.n⟩) (h.new k t (.dS (l.zip vs))))
inductive It where
 |c0 (r:cq) (i:Nat)
 |dict (r:cq) (v:Nat) (l:List V)
 |bo (l:List V)
noncomputable def Obj.it(r:cq)(n:Nat):Obj->Option It
 |.list _=>U (.c0 r 0)
 |.dI es=>U (.dict r n (ae (es.map (·.1))))
 |.dP es=>U (.dict r n (es.map λe=>V.aA (ae e.1)))
 |_=>.none
noncomputable def It.start(h:Hp):V->Option It
 |.fl xs=>U (.bo xs)
 |.aA xs=>U (.bo xs)
 |.yC n=>U (.bo ((L3 n.toNat).map λ(i:Nat)=>V.int i))
 |.ref r=>(h.o r).bind (Obj.it r (h.e4 r))
 |_=>.none
noncomputable def It.next(h:Hp):It->Option (Option (V×It))
 |.bo []=>U .none
 |.bo (v::r)=>U (U (v,.bo r))
 |.c0 r i=>((h.o r).bind Obj.ip).map λxs=>xs[i]?.map λv=>(v,.c0 r (i+1))
 |.dict r n l=>if h.e4 r=n/\(h.o r).isSome=true then(match l with
   |[]=>U .none
   |v::l=>U (U (v,.dict r n l)))
  else .none
def Obj.toL(Q:PV)(h:Hp):Obj->Prop
 |.list xs=>newList xs Q h
 |.dI es=>newList (ae (es.map (·.1))) Q h
 |_=>False
def HZ(v:V)(Q:PV)(h:Hp):Prop:=match v with
 |.fl xs=>newList xs Q h
 |.ref r=>bB (h.o r) (Obj.toL Q h)
 |_=>False
abbrev I4(Q:PV)(h:Hp):List V->Prop:=λxs=>xs.length<=aN/\Q (.int xs.length) h
abbrev KE(Q:PV)(h:Hp):List V->Prop:=λxs=>xs.length<=aN/\Q (.aA xs) h
def ER(v:V)(Q:PV)(h:Hp):Prop:=match v with
 |.aA xs=>Q (.aA xs) h
 |v=>bB (ca h v) (KE Q h)
def uQ(xs:List V)(Q:PV)(h:Hp):Prop:=xs.length<64/\bB (iq xs) λl=>newList (ae (cE l)) Q h
def Obj.oU(Q:PV)(h:Hp):Obj->Prop
 |.list xs=>uQ xs Q h
 |.dI es=>es.length<64/\newList (ae (cE (es.map (·.1)))) Q h
 |.dP es=>es.length<64/\(∀e∈es,e.1≠[])/\∀l:List (List Int),l.Perm (es.map (·.1))->newList (l.map λl=>V.aA (ae l)) Q h
 |_=>False
def HG(v:V)(Q:PV)(h:Hp):Prop:=match v with
 |.fl xs=>uQ xs Q h
 |.ref r=>bB (h.o r) (Obj.oU Q h)
 |_=>False
def pQ(b:BI)(vs:List V)(Q:PV)(h:Hp):Prop:=match b with
 |.cQ=>bB (mB vs) λv=>bB (ca h v) (I4 Q h)
 |.list=>bB (mB vs) λv=>HZ v Q h
 |.tuple=>bB (mB vs) λv=>ER v Q h
 |.sorted=>bB (mB vs) λv=>HG v Q h
 |.e'=>bB (xy vs) λp=>bB p.1.rG λxs=>bB p.2.rG λys=>newList ((xs.zip ys).map λp=>V.aA [p.1,p.2]) Q h
 |.range=>bB (mB vs) λv=>bB v.fF λn=>0<=n/\n<=aN/\Q (.yC n) h
 |.min=>bB (xy vs) λp=>h0 p.1 p.2 λa b=>Q (.int (if b<a then b else a)) h
 |.max=>bB (xy vs) λp=>h0 p.1 p.2 λa b=>Q (.int (if a<b then b else a)) h
 |.int=>bB (mB vs) λv=>bB v.fF λa=>Q (.int a) h
 |.g8=>bB (mB vs) λv=>bB (ca h v) λ_=>Q (.bool true) h
 |.dict=>False
def Obj.cont(h:Hp)(r:cq)(m:String)(vs:List V)(Q:PV):Obj->Prop
 |.list xs=>(match vs with
  |[]=>m="pop"/\xs.length<=aN/\bB xs.getLast? λv=>Q v (h.set r (.list xs.dropLast))
  |v::w=>w=[]/\((m="append"/\xs.length<aN/\Q .none (h.set r (.list (xs++[v]))))\/
    (m="extend"/\v≠.ref r/\bB (ca h v) λys=>xs.length+ys.length<=aN/\Q .none (h.set r (.list (xs++ys))))))
 |.dI es=>bB (mB vs) λk=>bB k.fF λi=>m="get"/\Q ((bc es i).getD .none) h
 |.dS _=>False
 |.dP es=>bB (mB vs) λk=>bB (df k) λi=>m="get"/\Q ((bc es i).getD .none) h
 |.dN es=>bB (xy vs) λp=>bB (gC p.1) λi=>m="get"/\Q ((bc es i).getD p.2) h
def ih(h:Hp)(o:V)(m:String)(vs:List V)(Q:PV):Prop:=bB o.ud λr=>bB (h.o r) (Obj.cont h r m vs Q)
noncomputable def Obj.F8:Obj->Bool
 |.list _=>true
 |_=>false
noncomputable def kindOf(h:Hp)(v:V):Option Bool:=(v.ud.bind h.o).map Obj.F8
noncomputable def uB:Bool->String->Bool
 |true,m=>m=="append"||m=="pop"||m=="extend"
 |false,m=>m=="get"
noncomputable def Obj.bC:Obj->Option (List (String×V))
 |.dS fs=>U fs
 |_=>.none
noncomputable def bC(h:Hp)(r:cq):Option (List (String×V)):=(h.o r).bind Obj.bC
abbrev Ctx:=String->List V->PV->Hp->Prop
section
variable {α β:Type}
abbrev Em(Q:α->Hp->Prop)(h:Hp):α->Prop:=λv=>Q v h
abbrev oo(f:(β->Hp->Prop)->Hp->Prop)(g:α->β->Hp->Prop):α->Hp->Prop:=λx=>f (g x)
abbrev n6(W:aV->β->Hp->Prop)(Q:β):aV->Hp->Prop:=λa=>W a Q
end
abbrev tX(f:String)(P:V->Prop):List (String×V)->Prop:=λfs=>bB (bc fs f) P
abbrev Ha(f:String)(Q:PV):PV:=λo h=>match o with
 |.eQ _ r=>bB (bC h r) (tX f (Em Q h))
 |_=>False
abbrev GS(Q:PV):V->PV:=λc k h=>bB (lu h c k) (Em Q h)
abbrev IE(xs:List V)(Q:PV)(h:Hp):Int->Prop:=λn=>0<=n/\n<=mD/\newList (xs.take n.toNat) Q h
abbrev Ju(k:V)(Q:PV)(h:Hp):List V->Prop:=λxs=>bB k.fF (IE xs Q h)
abbrev Ba(Q:PV):V->PV:=λc k h=>bB (ca h c) (Ju k Q h)
abbrev KB(Q:PV)(h:Hp):List V->Prop:=λxs=>newList xs.reverse Q h
abbrev IK(Q:PV):PV:=λc h=>bB (ca h c) (KB Q h)
abbrev GW(Q:PV):List V->Hp->Prop:=λvs h=>vs.length<=aN/\Q (.aA vs) h
abbrev jA(Q:PV):List V->Hp->Prop:=λvs=>newList vs Q
abbrev DR(Q:PV):List V->List V->Hp->Prop:=λk v=>dH k v Q
abbrev KA(W:(List V->Hp->Prop)->Hp->Prop)(Q:PV)(h:Hp):List V->Prop:=λk=>W (DR Q k) h
abbrev HQ(op:Op)(Q:PV):V->PV:=λx y=>sQ op x y Q
abbrev E9(op:Cm)(Q:Bool->Hp->Prop):V->PV:=λx y h=>bB (gI h op x y) (Em Q h)
abbrev Hw(Q:PV):Bool->Hp->Prop:=λt=>Q (.bool t)
abbrev IX(Q:Bool->Hp->Prop):Bool->Hp->Prop:=λt=>Q (!t)
abbrev C5(Q:Bool->Hp->Prop):PV:=λv h=>bB (truthy v) (Em Q h)
abbrev BD(f g:Hp->Prop):Bool->Hp->Prop:=λt h=>if t=true then f h else g h
abbrev D1(Q:List V->Hp->Prop):V->List V->Hp->Prop:=λv vs=>Q (v::vs)
abbrev Jo(b:BI)(Q:PV):List V->Hp->Prop:=λvs=>pQ b vs Q
abbrev FS(acc:List V)(Q:List V->Hp->Prop):PV:=λx h=>acc.length<aN/\Q (acc++[x]) h
abbrev w7(T:V->(Bool->Hp->Prop)->Hp->Prop)(W:V->PV->Hp->Prop):V->List V->(List V->Hp->Prop)->Hp->Prop:=λv acc Q=>T v (BD (W v (FS acc Q)) (Q acc))
abbrev Hk(o:V)(m:String)(Q:PV)(k:Bool):List V->Hp->Prop:=λvs h=>kindOf h o=U k/\ih h o m vs Q
abbrev Kk(o:V)(m:String)(W:(List V->Hp->Prop)->Hp->Prop)(Q:PV)(h:Hp):Bool->Prop:=λk=>uB k m=true/\W (Hk o m Q k) h
abbrev Ge(m:String):List (String×V)->Prop:=λfs=>bc fs m=.none
abbrev kE(K:Hp->Prop):PV:=λ_=>K
abbrev sH(P:Prop):V->Prop:=λ_=>P
def oi(o:Option (Option (V×It)))(cU:Prop)(go:V->It->Prop):Prop:=match o with
 |.none=>False
 |some p=>match p with
  |.none=>cU
  |some p=>go p.1 p.2
noncomputable def iter{b:Type}(step:V->b->(b->Hp->Prop)->Hp->Prop):Nat->It->b->(b->Hp->Prop)->Hp->Prop
 |0,_,_,_,_=>False
 |n+1,it,a,Q,h=>oi (it.next h) (Q a h) λv i=>step v a (λA=>iter step n i A Q) h
abbrev J9(step:V->List V->(List V->Hp->Prop)->Hp->Prop)(Q:PV)(h:Hp):It->Prop:=λj=>∃n,iter step n j [] (jA Q) h
abbrev GU(step:V->List V->(List V->Hp->Prop)->Hp->Prop)(Q:PV):PV:=λv h=>bB (It.start h v) (J9 step Q h)
section
variable (G:String->Option V) (C:Ctx)
abbrev Bj(f:String)(Q:PV):List V->Hp->Prop:=λvs=>C f vs Q
abbrev GF(f:String)(o:V)(Q:PV):List V->Hp->Prop:=λvs=>C f (o::vs) Q
abbrev DD(m:String)(W:(List V->Hp->Prop)->Hp->Prop)(Q:PV):PV:=λo h=>match o with
 |.eQ K r=>bB (bC h r) (Ge m)/\bB (G (K++"."++m)) (sH (W (GF C (K++"."++m) o Q) h))
 |o=>bB (kindOf h o) (Kk o m W Q h)
abbrev DU(o:V)(Q:PV):PV:=λv h=>v=.none/\Q o h
abbrev I3(K:String)(Q:PV):List V->Hp->Prop:=λvs h=>∃k t,C (K++".__init__") (.eQ K ⟨k,t,h.n⟩::vs) (DU (.eQ K ⟨k,t,h.n⟩) Q) (h.new k t (.dS []))
mutual
noncomputable def Ex.wp:Ex->aV->PV->Hp->Prop
 |.aE c,_,Q,h=>Q c h
 |.var i,d,Q,h=>bB (d[i]?).join (Em Q h)
 |.c4 x,_,Q,h=>bB (G x) (Em Q h)
 |.ao e f,d,Q,h=>e.wp d (Ha f Q) h
 |.sub e i,d,Q,h=>e.wp d (oo (i.wp d) (GS Q)) h
 |.gk e i,d,Q,h=>e.wp d (oo (i.wp d) (Ba Q)) h
 |.ED e,d,Q,h=>e.wp d (IK Q) h
 |.aA es,d,Q,h=>Ex.bh es d (GW Q) h
 |.list es,d,Q,h=>Ex.bh es d (jA Q) h
 |.dict k vs,d,Q,h=>bB (DK.vals d k) (KA (Ex.bh vs d) Q h)
 |.hQ op a b,d,Q,h=>a.wp d (oo (b.wp d) (HQ op Q)) h
 |.bV op a b,d,Q,h=>a.wp d (oo (b.wp d) (E9 op (Hw Q))) h
 |.not _,_,_,_=>False
 |.and _,_,_,_=>False
 |.or _,_,_,_=>False
 |.cG c a b,d,Q,h=>c.rQ d (BD (a.wp d Q) (b.wp d Q)) h
 |.call f es,d,Q,h=>Ex.bh es d (Bj C f Q) h
 |.az e m es,d,Q,h=>e.wp d (DD G C m (Ex.bh es d) Q) h
 |.bi b es,d,Q,h=>Ex.bh es d (Jo b Q) h
 |.new K es,d,Q,h=>Ex.bh es d (I3 C K Q) h
 |.comp elt i it c,d,Q,h=>it.wp d (GU (w7 (λv=>Ex.Eh c (d.set i (U v))) (λv=>elt.wp (d.set i (U v)))) Q) h
noncomputable def Ex.bh:List Ex->aV->(List V->Hp->Prop)->Hp->Prop
 |[],_,Q,h=>Q [] h
 |e::r,d,Q,h=>e.wp d (oo (Ex.bh r d) (D1 Q)) h
noncomputable def Ex.Eh:Option Ex->aV->(Bool->Hp->Prop)->Hp->Prop
 |.none,_,Q,h=>Q true h
 |some e,d,Q,h=>e.rQ d Q h
noncomputable def Ex.rQ:Ex->aV->(Bool->Hp->Prop)->Hp->Prop
 |.not a,d,Q,h=>a.rQ d (IX Q) h
 |.and es,d,Q,h=>Ex.y3 es d Q h
 |.or es,d,Q,h=>Ex.EK es d Q h
 |.bV op a b,d,Q,h=>a.wp d (oo (b.wp d) (E9 op Q)) h
 |.var i,d,Q,h=>bB (d[i]?).join (Em (C5 Q) h)
 |.call f es,d,Q,h=>Ex.bh es d (Bj C f (C5 Q)) h
 |.bi b es,d,Q,h=>Ex.bh es d (Jo b (C5 Q)) h
 |.az e m es,d,Q,h=>e.wp d (DD G C m (Ex.bh es d) (C5 Q)) h
 |_,_,_,_=>False
noncomputable def Ex.y3:List Ex->aV->(Bool->Hp->Prop)->Hp->Prop
 |[],_,Q,h=>Q true h
 |e::r,d,Q,h=>e.rQ d (BD (Ex.y3 r d Q) (Q false)) h
noncomputable def Ex.EK:List Ex->aV->(Bool->Hp->Prop)->Hp->Prop
 |[],_,Q,h=>Q false h
 |e::r,d,Q,h=>e.rQ d (BD (Q true) (Ex.EK r d Q)) h
end
abbrev BF(r:cq)(f:String)(v:V)(K:Hp->Prop)(h:Hp):List (String×V)->Prop:=λfs=>fs.length<900/\K (h.set r (.dS (bA fs f v)))
abbrev Jm(f:String)(v:V)(K:Hp->Prop):PV:=λo h=>match o with
 |.eQ _ r=>bB (bC h r) (BF r f v K h)
 |_=>False
abbrev Hi(v:V)(K:Hp->Prop):V->PV:=λc k h=>gy h c k v K
mutual
noncomputable def Tg.wp:Tg->V->aV->(aV->Hp->Prop)->Hp->Prop
 |.var i,v,a,Q,h=>i<a.length/\Q (a.set i (U v)) h
 |.ao e f,v,a,Q,h=>e.wp G C a (Jm f v (Q a)) h
 |.sub e i,v,a,Q,h=>e.wp G C a (oo (i.wp G C a) (Hi v (Q a))) h
 |.aA T,v,a,Q,h=>match v with
  |.aA vs=>vs.length=T.length/\Tg.bh T vs a Q h
  |_=>False
noncomputable def Tg.bh:List Tg->List V->aV->(aV->Hp->Prop)->Hp->Prop
 |t::T,v::vs,a,Q,h=>Tg.wp t v a (n6 (Tg.bh T vs) Q) h
 |_,_,a,Q,h=>Q a h
end
inductive Fl where |next |ret (v:V)
abbrev PS:=Fl->aV->Hp->Prop
abbrev Fl.seq(K:aV->Hp->Prop)(Q:PS):PS:=λf a h=>match f with
 |.next=>K a h
 |.ret v=>Q (.ret v) a h
noncomputable def qo(c:aV->(Bool->Hp->Prop)->Hp->Prop)(b:aV->PS->Hp->Prop):Nat->aV->PS->Hp->Prop
 |0,_,_,_=>False
 |n+1,a,Q,h=>c a (BD (b a (Fl.seq (n6 (qo c b n) Q) Q)) (Q .next a)) h
noncomputable def dr(t:V->aV->(aV->Hp->Prop)->Hp->Prop)(b:aV->PS->Hp->Prop):Nat->It->aV->PS->Hp->Prop
 |0,_,_,_,_=>False
 |n+1,it,a,Q,h=>oi (it.next h) (Q .next a h) λv i=>t v a (n6 b (Fl.seq (n6 (dr t b n i) Q) Q)) h
abbrev Fq(W:V->aV->(aV->Hp->Prop)->Hp->Prop)(a:aV)(K:aV->Hp->Prop):PV:=λv=>W v a K
abbrev I'(K:Hp->Prop):V->PV:=λc k h=>AB h c k K
abbrev G3(Q:PS)(a:aV):PV:=λv=>Q (.ret v) a
abbrev Kc(T:V->aV->(aV->Hp->Prop)->Hp->Prop)(B:aV->PS->Hp->Prop)(a:aV)(Q:PS)(h:Hp):It->Prop:=λj=>∃n,dr T B n j a Q h
abbrev Ib(T:V->aV->(aV->Hp->Prop)->Hp->Prop)(B:aV->PS->Hp->Prop)(a:aV)(Q:PS):PV:=λv h=>bB (It.start h v) (Kc T B a Q h)
mutual
noncomputable def St.wp:St->aV->PS->Hp->Prop
 |.expr e,d,Q,h=>e.wp G C d (kE (Q .next d)) h
 |.a8 t e,d,Q,h=>e.wp G C d (Fq (Tg.wp G C t) d (Q .next)) h
 |.md e i,d,Q,h=>e.wp G C d (oo (i.wp G C d) (I' (Q .next d))) h
 |.cG c a b,d,Q,h=>c.rQ G C d (BD (St.bh a d Q) (St.bh b d Q)) h
 |.while c b,d,Q,h=>∃n,qo (c.rQ G C) (St.bh b) n d Q h
 |.for t e b,d,Q,h=>e.wp G C d (Ib (Tg.wp G C t) (St.bh b) d Q) h
 |.ret e,d,Q,h=>e.wp G C d (G3 Q d) h
 |.raise,_,_,_=>False
noncomputable def St.bh:List St->aV->PS->Hp->Prop
 |[],d,Q,h=>Q .next d h
 |s::r,d,Q,h=>s.wp d (Fl.seq (n6 (St.bh r) Q) Q) h
end
end
inductive Gg:V->Hp->V->Hp->Prop
 |refl {v h}:Gg v h v h
 |dZ {r xs h}:h.o r=U (.list xs)->Gg (.ref r) h (.fl xs) (h.drop r)
 |fst {r xs b h}:h.o r=U (.list xs)->b≠.ref r->Gg (.aA [.ref r,b]) h (.aA [.fl xs,b]) (h.drop r)
 |IN {r xs q ys h}:h.o r=U (.list xs)->h.o q=U (.list ys)->r≠q->Gg (.aA [.ref r,.ref q]) h (.aA [.fl xs,.fl ys]) ((h.drop r).drop q)
structure Fn where
 params:Nat
 slots:Nat
 body:List St
inductive IY(v:V)(h:Hp)(Q:PV):Prop
 |mk (a:V) (h':Hp) (f:Gg v h a h') (q:Q a h')
abbrev Fl.cU(Q:PV):PS:=λf _ h=>match f with
 |.next=>Q .none h
 |.ret v=>IY v h Q
def GR(G:String->Option V)(C:Ctx)(f:Fn)(vs:List V)(Q:PV)(h:Hp):Prop:=
 vs.length=f.params/\St.bh G C f.body (vs.map U++NV (f.slots-f.params) .none) (Fl.cU Q) h
abbrev J8(G:String->Option V)(C:Ctx)(vs:List V)(Q:PV)(h:Hp):Fn->Prop:=λf=>GR G C f vs Q h
noncomputable def a5(G:String->Option V)(T:String->Option Fn):Nat->Ctx
 |0,_,_,_,_=>False
 |n+1,f,vs,Q,h=>bB (T f) (J8 G (a5 G T n) vs Q h)
theorem al{b:Type}{a:b}{P:Prop}(h:(KT:Option b)=U a):P:=nomatch h
theorem aK{P:Prop}(h:false=true):P:=nomatch h
theorem bG{c d:Type}{o:Option c}{f:c->Option d}{b:d}(h:o.bind f=U b):BV o λa=>f a=U b:=by
 cases o with
 |none=>exact al h
 |some a=>exact⟨a,rfl,h⟩
theorem fz{c d:Type}{o:Option c}{f:c->d}{b:d}(h:o.map f=U b):BV o λa=>f a=b:=by
 cases o with
 |none=>exact al h
 |some a=>exact⟨a,rfl,KP h⟩
theorem c1{v:V}{i:Int}(h:v.fF=U i):v=.int i:=by
 cases v with
 |int j=>exact congrArg V.int (KP h)
 |_=>exact al h
theorem rx{v:V}{i:String}(h:v.xR=U i):v=.str i:=by
 cases v with
 |str j=>exact congrArg V.str (KP h)
 |_=>exact al h
theorem n7{v:V}{i:List V}(h:v.rG=U i):v=.aA i:=by
 cases v with
 |aA j=>exact congrArg V.aA (KP h)
 |_=>exact al h
theorem vI{v:V}{i:cq}(h:v.ud=U i):v=.ref i:=by
 cases v with
 |ref j=>exact congrArg V.ref (KP h)
 |_=>exact al h
theorem vK{o:Obj}{i:List V}(h:o.ip=U i):o=.list i:=by
 cases o with
 |list j=>exact congrArg Obj.list (KP h)
 |_=>exact al h
theorem oh{v:V}(h:mB l=U v):l=[v]:=by
 cases l with
 |nil=>exact al h
 |cons a r=>cases r with
  |nil=>exact congrArg (λa=>[a]) (KP h)
  |cons=>exact al h
theorem zj{p:V×V}(h:xy l=U p):l=[p.1,p.2]:=by
 cases l with
 |nil=>exact al h
 |cons a r=>cases r with
  |nil=>exact al h
  |cons b r=>cases r with
   |nil=>exact congrArg (λp:V×V=>[p.1,p.2]) (KP h)
   |cons=>exact al h
theorem C1{p:V×V×V×V}(h:Dv l=U p):l=[p.1,p.2.1,p.2.2.1,p.2.2.2]:=by
 cases l with
 |nil=>exact al h
 |cons a r=>cases r with
  |nil=>exact al h
  |cons b r=>cases r with
   |nil=>exact al h
   |cons c r=>cases r with
    |nil=>exact al h
    |cons d r=>cases r with
     |nil=>exact congrArg (λp:V×V×V×V=>[p.1,p.2.1,p.2.2.1,p.2.2.2]) (KP h)
     |cons=>exact al h
open PySem
abbrev Nm:=List (K3×Nat)
structure Gl where
 names:List K3
 gH:List String
 cells:List K3
noncomputable def Gl.contains(g:Gl)(x:K3):Bool:=g.names.contains x
noncomputable def Op.py:Op->Operator
 |.add=>.Add |.sub=>.Sub |.mul=>.Mult |.IV=>.FloorDiv |.CV=>.Mod
noncomputable def Cm.py:Cm->CmpOp
 |.eq=>.Eq |.ne=>.NotEq |.lt=>.Lt |.le=>.LtE |.gt=>.Gt |.ge=>.GtE
 |.dK=>.In |.eY=>.NotIn |.is=>.Is |.oM=>.IsNot
noncomputable def BI.name:BI->String
 |.cQ=>"len" |.list=>"list" |.tuple=>"tuple" |.sorted=>"sorted" |.e'=>"list" |.range=>"range"
 |.min=>"min" |.max=>"max" |.int=>"int" |.g8=>"isinstance" |.dict=>"dict"
noncomputable def wb:Pj:=⟨.module,[],false,false,[]⟩
noncomputable def s0:K3:=KR ""
structure Vw where
 cu:List K0
 k9:List K0
 num:Nat
 KD:Pj
 name:K3
noncomputable def vw:K0->Vw
 |.BoolOp _ l _=>⟨l,[],0,wb,s0⟩
 |.BinOp l _ r _=>⟨[l,r],[],0,wb,s0⟩
 |.UnaryOp _ x _=>⟨[x],[],0,wb,s0⟩
 |.IfExp t b o _=>⟨[t,b,o],[],0,wb,s0⟩
 |.Dict K l _=>⟨l,K.filterMap id,0,wb,s0⟩
 |.ListComp e g S _=>⟨e::(match g with |⟨t,i,I,_⟩::_=>t::i::I |[]=>[]),[],0,S,s0⟩
 |.Compare l _ R _=>⟨l::R,[],0,wb,s0⟩
 |.Call f l _ _=>⟨f::l,[],0,wb,s0⟩
 |.Constant _ k _=>⟨[],[],k,wb,s0⟩
 |.Attribute v _ _=>⟨[v],[],0,wb,s0⟩
 |.Subscript v s _=>⟨[v,s],[],0,wb,s0⟩
 |.Name x _=>⟨[],[],0,⟨.module,[],false,false,[]⟩,x⟩
 |.List l _=>⟨l,[],0,wb,s0⟩
 |.Tuple l k _=>⟨l,[],k,wb,s0⟩
 |.Slice l u s _=>⟨l.toList++u.toList++s.toList,[],0,wb,s0⟩
 |_=>⟨[],[],0,wb,s0⟩
noncomputable def cu(e:K0):List K0:=(vw e).cu
noncomputable def JR:K0:=.Constant .none 0 ⟨0,0,0,0⟩
noncomputable def oQ:Nat->List K0->K0
 |_,[]=>JR
 |0,e::_=>e
 |n+1,_::r=>oQ n r
noncomputable def cO(e:K0)(n:Nat):K0:=oQ n (cu e)
noncomputable def uf(e:K0):List K0:=(vw e).k9
noncomputable def hC(e:K0):Nat:=(vw e).num
noncomputable def l9(e:K0):Pj:=(vw e).KD
noncomputable def jP(e:K0):K3:=(vw e).name
noncomputable def pj(nm:Nm)(i:Nat):K3:=match nm.find? λp=>p.2==i with
 |some p=>p.1
 |none=>KR ""
noncomputable def b0(nm:Nm)(x:K3)(i:Nat):List (K3×Mp)->Nm
 |[]=>[]
 |(y,k)::r=>if y==x then(y,i)::b0 nm x i r else match k with
  |.free=>(match nm.lookup y with |some j=>(y,j)::b0 nm x i r |none=>b0 nm x i r)
  |_=>b0 nm x i r
noncomputable def wk(n:List (K3×Mp)):List K3:=(n.filter λp=>p.2==.globalImplicit).map (·.1)
noncomputable def w5(n:List (K3×Mp)):List K3:=(n.filter λp=>p.2==.cell||p.2==.free).map (·.1)
noncomputable def lb(f:List String)(s:Pj):Gl:=⟨wk s.names,f,w5 s.names⟩
noncomputable def mO(s:Pj)(x:K3)(i:Nat)(nm:Nm)(g:Gl):Bool:=
 s.kind==.function&&decide ((s.names.map (·.1)).Nodup)&&(s.names.lookup x==U .local)&&(nm.all λp=>p.2 !=i)&&
 s.names.all λp=>(p.1==x&&p.2==.local)||(p.1==(".0":K3)&&p.2==.local)||p.2==.globalImplicit||(p.2==.free&&(nm.lookup p.1).isSome&&g.cells.contains p.1)
noncomputable def fA(x:K3):Bool:=!(x==("__debug__":K3))&&!(x==("__classdict__":K3))
noncomputable def j1:List String:=["VALUE_OPS","BY_ARGUMENTS","BOOL","INT"]
noncomputable def kB:List String:=["Congruence","Bank"]
noncomputable def gj:List String:=["bank","root","members","uses","value","apart","watchers","up","table","sides","told","news","queue","clash","clash_level","trail","marks",
 "sort_names","sort_widths","fun_names","fun_args","fun_results","fresh_count","term_ops","term_args","term_sorts","term_datas","numbers","true_number","false_number"]
noncomputable def DL(c:V)(e:K0):K0:=match c with
 |.none=>.Constant .none (hC e) e.pos
 |.bool b=>.Constant (.bool b) (hC e) e.pos
 |.int i=>if i<0 then .UnaryOp .USub (.Constant (.int (-i)) (hC (cO e 0)) (cO e 0).pos) e.pos else .Constant (.int i) (hC e) e.pos
 |.str s=>.Constant (.str (KR s)) (hC e) e.pos
 |_=>JR
noncomputable def Hn:V->Bool
 |.none=>true
 |.bool _=>true
 |.int _=>true
 |.str _=>true
 |_=>false
noncomputable def DK.py(nm:Nm):DK->K0->K0
 |.str s,e=>.Constant (.str (KR s)) (hC e) e.pos
 |.var i,e=>.Name (pj nm i) e.pos
noncomputable def DK.cP(nm:Nm):List DK->List K0->List (Option K0)
 |[],_=>[]
 |k::r,es=>U (k.py nm (oQ 0 es))::DK.cP nm r es.tail
mutual
noncomputable def Ex.py(nm:Nm):Ex->K0->K0
 |.aE c,e=>DL c e
 |.var i,e=>.Name (pj nm i) e.pos
 |.c4 g,e=>.Name (KR g) e.pos
 |.ao m f,e=>.Attribute (m.py nm (cO e 0)) (KR f) e.pos
 |.sub m i,e=>.Subscript (m.py nm (cO e 0)) (i.py nm (cO e 1)) e.pos
 |.gk m i,e=>.Subscript (m.py nm (cO e 0)) (.Slice none (U (i.py nm (cO (cO e 1) 0))) none (cO e 1).pos) e.pos
 |.ED m,e=>.Subscript (m.py nm (cO e 0)) (.Slice none none (U (.UnaryOp .USub (.Constant (.int 1) (hC (cO (cO (cO e 1) 0) 0)) (cO (cO (cO e 1) 0) 0).pos) (cO (cO e 1) 0).pos)) (cO e 1).pos) e.pos
 |.aA M,e=>.Tuple (Ex.cP nm M (cu e)) (hC e) e.pos
 |.list M,e=>.List (Ex.cP nm M (cu e)) e.pos
 |.dict k vs,e=>.Dict (DK.cP nm k (uf e)) (Ex.cP nm vs (cu e)) e.pos
 |.hQ op a b,e=>.BinOp (a.py nm (cO e 0)) op.py (b.py nm (cO e 1)) e.pos
 |.bV op a b,e=>.Compare (a.py nm (cO e 0)) [op.py] [b.py nm (cO e 1)] e.pos
 |.not a,e=>.UnaryOp .Not (a.py nm (cO e 0)) e.pos
 |.and M,e=>.BoolOp .And (Ex.cP nm M (cu e)) e.pos
 |.or M,e=>.BoolOp .Or (Ex.cP nm M (cu e)) e.pos
 |.cG c a b,e=>.IfExp (c.py nm (cO e 0)) (a.py nm (cO e 1)) (b.py nm (cO e 2)) e.pos
 |.call f M,e=>.Call (.Name (KR f) (cO e 0).pos) (Ex.cP nm M (cu e).tail) [] e.pos
 |.az o m M,e=>.Call (.Attribute (o.py nm (cO (cO e 0) 0)) (KR m) (cO e 0).pos) (Ex.cP nm M (cu e).tail) [] e.pos
 |.bi .e' M,e=>.Call (.Name (KR "list") (cO e 0).pos) [.Call (.Name (KR "zip") (cO (cO e 1) 0).pos) (Ex.cP nm M (cu (cO e 1)).tail) [] (cO e 1).pos] [] e.pos
 |.bi .g8 M,e=>.Call (.Name (KR "isinstance") (cO e 0).pos) (Ex.cP nm M (cu e).tail++[.Name (KR "list") (cO e 2).pos]) [] e.pos
 |.bi b M,e=>.Call (.Name (KR b.name) (cO e 0).pos) (Ex.cP nm M (cu e).tail) [] e.pos
 |.new K M,e=>.Call (.Name (KR K) (cO e 0).pos) (Ex.cP nm M (cu e).tail) [] e.pos
 |.comp elt i it c,e=>.ListComp (elt.py (b0 nm (jP (cO e 1)) i (l9 e).names) (cO e 0)) [⟨.Name (jP (cO e 1)) (cO e 1).pos,it.py nm (cO e 2),Ex.Fy (b0 nm (jP (cO e 1)) i (l9 e).names) c (cO e 3),0⟩] (l9 e) e.pos
noncomputable def Ex.cP(nm:Nm):List Ex->List K0->List K0
 |[],_=>[]
 |m::r,es=>m.py nm (oQ 0 es)::Ex.cP nm r es.tail
noncomputable def Ex.Fy(nm:Nm):Option Ex->K0->List K0
 |none,_=>[]
 |some m,e=>[m.py nm e]
end
noncomputable def Ex.ol:Ex->Bool
 |.call .. =>true |.az .. =>true |.bi .. =>true |.new .. =>true
 |_=>false
noncomputable def Ex.uD:Ex->Bool
 |.comp .. =>true
 |_=>false
noncomputable def DK.ok(nm:Nm):DK->Bool
 |.str _=>true
 |.var i=>nm.lookup (pj nm i)==U i&&fA (pj nm i)
mutual
noncomputable def Ex.ok(nm:Nm)(G:Gl):Ex->K0->Bool
 |.aE c,_=>Hn c
 |.var i,_=>nm.lookup (pj nm i)==U i&&fA (pj nm i)
 |.c4 g,_=>j1.contains g&&(G.contains (KR g)&&fA (KR g))
 |.ao m f,e=>gj.contains f&&(!m.ol&&m.ok nm G (cO e 0))
 |.sub m i,e=>m.ok nm G (cO e 0)&&i.ok nm G (cO e 1)
 |.gk m i,e=>m.ok nm G (cO e 0)&&i.ok nm G (cO (cO e 1) 0)
 |.ED m,e=>m.ok nm G (cO e 0)
 |.aA M,e=>Ex.hN nm G M (cu e)
 |.list M,e=>Ex.hN nm G M (cu e)
 |.dict k vs,e=>k.all (DK.ok nm)&&(Ex.hN nm G vs (cu e)&&(decide (k.length=vs.length)&&decide (vs.length<=15)))
 |.hQ _ a b,e=>a.ok nm G (cO e 0)&&b.ok nm G (cO e 1)
 |.bV _ a b,e=>a.ok nm G (cO e 0)&&b.ok nm G (cO e 1)
 |.not a,e=>a.ok nm G (cO e 0)
 |.and M,e=>Ex.hN nm G M (cu e)
 |.or M,e=>Ex.hN nm G M (cu e)
 |.cG c a b,e=>c.ok nm G (cO e 0)&&(a.ok nm G (cO e 1)&&b.ok nm G (cO e 2))
 |.call f M,e=>G.gH.contains f&&(G.contains (KR f)&&(fA (KR f)&&Ex.hN nm G M (cu e).tail))
 |.az o m M,e=>(cO e 0).pos.endLine==e.pos.line&&(!o.ol&&(decide (M.length<20)&&(o.ok nm G (cO (cO e 0) 0)&&Ex.hN nm G M (cu e).tail)))
 |.bi .e' M,e=>G.contains (KR "list")&&(G.contains (KR "zip")&&Ex.hN nm G M (cu (cO e 1)).tail)
 |.bi .g8 M,e=>G.contains (KR "isinstance")&&(G.contains (KR "list")&&(decide (M.length=1)&&Ex.hN nm G M (cu e).tail))
 |.bi b M,e=>G.contains (KR b.name)&&(fA (KR b.name)&&Ex.hN nm G M (cu e).tail)
 |.new K M,e=>kB.contains K&&(G.contains (KR K)&&(fA (KR K)&&Ex.hN nm G M (cu e).tail))
 |.comp elt i it c,e=>mO (l9 e) (jP (cO e 1)) i nm G&&(fA (jP (cO e 1))&&(it.ok nm G (cO e 2)&&
   (Ex.Ew (b0 nm (jP (cO e 1)) i (l9 e).names) (lb G.gH (l9 e)) c (cO e 3)&&elt.ok (b0 nm (jP (cO e 1)) i (l9 e).names) (lb G.gH (l9 e)) (cO e 0))))
noncomputable def Ex.hN(nm:Nm)(G:Gl):List Ex->List K0->Bool
 |[],_=>true
 |m::r,es=>m.ok nm G (oQ 0 es)&&Ex.hN nm G r es.tail
noncomputable def Ex.Ew(nm:Nm)(G:Gl):Option Ex->K0->Bool
 |none,_=>true
 |some m,e=>m.ok nm G e
end
mutual
noncomputable def Tg.py(nm:Nm):Tg->K0->K0
 |.var i,e=>.Name (pj nm i) e.pos
 |.ao m f,e=>.Attribute (m.py nm (cO e 0)) (KR f) e.pos
 |.sub m i,e=>.Subscript (m.py nm (cO e 0)) (i.py nm (cO e 1)) e.pos
 |.aA t,e=>.Tuple (Tg.cP nm t (cu e)) (hC e) e.pos
noncomputable def Tg.cP(nm:Nm):List Tg->List K0->List K0
 |[],_=>[]
 |m::r,es=>m.py nm (oQ 0 es)::Tg.cP nm r es.tail
end
mutual
noncomputable def Tg.ok(nm:Nm)(g:Gl):Tg->K0->Bool
 |.var i,_=>nm.lookup (pj nm i)==U i&&fA (pj nm i)
 |.ao m f,e=>gj.contains f&&(!m.ol&&m.ok nm g (cO e 0))
 |.sub m i,e=>m.ok nm g (cO e 0)&&i.ok nm g (cO e 1)
 |.aA t,e=>Tg.hN nm g t (cu e)
noncomputable def Tg.hN(nm:Nm)(g:Gl):List Tg->List K0->Bool
 |[],_=>true
 |m::r,es=>m.ok nm g (oQ 0 es)&&Tg.hN nm g r es.tail
end
noncomputable def e5:K0->Option K3
 |.Name x _=>U x
 |_=>KT
noncomputable def wj(nm:Nm)(t:Tg)(m:Ex)(x v:K0):Bool:=match m with
 |.aA vs=>(match t with
  |.aA T=>!((Ex.cP nm vs (cu v)).all (constantsAlone 8))&&decide (((Tg.cP nm T (cu x)).filterMap e5).Nodup)
  |_=>true)
 |.comp .. =>(match t with
  |.var _=>true
  |.ao .. =>true
  |_=>false)
 |_=>true
noncomputable def IB:LW->List K0×List LW×List LW
 |.Return v _=>(v.toList,[],[])
 |.Delete T _=>(T,[],[])
 |.Assign T v _=>(v::T,[],[])
 |.For t i b _ _=>([t,i],b,[])
 |.While t b _ _=>([t],b,[])
 |.If t b o _=>([t],b,o)
 |.Expr x _=>([x],[],[])
 |_=>([],[],[])
noncomputable def qA(s:LW):List K0:=(IB s).1
noncomputable def sk(s:LW)(n:Nat):K0:=oQ n (qA s)
noncomputable def qn(s:LW):List LW:=(IB s).2.1
noncomputable def H9(s:LW):List LW:=(IB s).2.2
noncomputable def hd:List LW->LW
 |[]=>.Pass ⟨0,0,0,0⟩
 |s::_=>s
mutual
noncomputable def St.py(nm:Nm):St->LW->LW
 |.expr m,s=>.Expr (m.py nm (sk s 0)) s.pos
 |.a8 t m,s=>.Assign [t.py nm (sk s 1)] (m.py nm (sk s 0)) s.pos
 |.md e i,s=>.Delete [.Subscript (e.py nm (cO (sk s 0) 0)) (i.py nm (cO (sk s 0) 1)) (sk s 0).pos] s.pos
 |.cG c a b,s=>.If (c.py nm (sk s 0)) (St.cP nm a (qn s)) (St.cP nm b (H9 s)) s.pos
 |.while c b,s=>.While (c.py nm (sk s 0)) (St.cP nm b (qn s)) [] s.pos
 |.for t e b,s=>.For (t.py nm (sk s 0)) (e.py nm (sk s 1)) (St.cP nm b (qn s)) [] s.pos
 |.ret m,s=>.Return (match qA s with |[]=>none |x::_=>U (m.py nm x)) s.pos
 |.raise,s=>s
noncomputable def St.cP(nm:Nm):List St->List LW->List LW
 |[],_=>[]
 |m::r,S=>m.py nm (hd S)::St.cP nm r S.tail
end
noncomputable def Ex.isNone:Ex->Bool
 |.aE .none=>true
 |_=>false
mutual
noncomputable def St.ok(nm:Nm)(g:Gl):St->LW->Bool
 |.expr m,s=>!m.uD&&m.ok nm g (sk s 0)
 |.a8 t m,s=>wj nm t m (sk s 1) (sk s 0)&&(t.ok nm g (sk s 1)&&m.ok nm g (sk s 0))
 |.md e i,s=>e.ok nm g (cO (sk s 0) 0)&&i.ok nm g (cO (sk s 0) 1)
 |.cG c a b,s=>c.ok nm g (sk s 0)&&(St.hN nm g a (qn s)&&St.hN nm g b (H9 s))
 |.while c b,s=>c.ok nm g (sk s 0)&&St.hN nm g b (qn s)
 |.for t e b,s=>t.ok nm g (sk s 0)&&(e.ok nm g (sk s 1)&&St.hN nm g b (qn s))
 |.ret m,s=>(match qA s with |[]=>m.isNone |x::_=>m.ok nm g x)
 |.raise,_=>true
noncomputable def St.hN(nm:Nm)(g:Gl):List St->List LW->Bool
 |[],_=>true
 |m::r,S=>m.ok nm g (hd S)&&St.hN nm g r S.tail
end
theorem bu{a b:Bool}(h:(a&&b)=true):a=true/\b=true:=by
 induction a with
 |true=>exact⟨rfl,h⟩
 |false=>exact aK h
theorem gS{a b:Bool}{g:Prop}(h:(a&&b)=true)(k:a=true->b=true->g):g:=k (bu h).1 (bu h).2
theorem og{A a1 a2:Bool}{g:Prop}(h:(A&&(a1&&a2))=true)(k:A=true->a1=true->a2=true->g):g:=gS h λa h=>gS h (k a)
theorem tI{A a1 a2 a3:Bool}{g:Prop}(h:(A&&(a1&&(a2&&a3)))=true)(k:A=true->a1=true->a2=true->a3=true->g):g:=gS h λa h=>og h (k a)
theorem v9{A a1 a2 a3 b:Bool}{g:Prop}(h:(A&&(a1&&(a2&&(a3&&b))))=true)(k:A=true->a1=true->a2=true->a3=true->b=true->g):g:=gS h λa h=>tI h (k a)
theorem Ac{i a1 a2 a3 j l m n o p A:Bool}{g:Prop}(h:(i&&(a1&&(a2&&(a3&&(j&&(l&&(m&&(n&&(o&&(p&&A))))))))))=true)(k:i=true->a1=true->a2=true->a3=true->j=true->l=true->m=true->n=true->o=true->p=true->A=true->g):g:=gS h λa h=>gS h λb h=>gS h λc h=>gS h λd h=>gS h λe h=>gS h λf h=>v9 h (k a b c d e f)
theorem EB{l a1 a2 a3 m n o p q r A e f i j:Bool}{g:Prop}(h:(l&&(a1&&(a2&&(a3&&(m&&(n&&(o&&(p&&(q&&(r&&(A&&(e&&(f&&(i&&j))))))))))))))=true)(k:l=true->a1=true->a2=true->a3=true->m=true->n=true->o=true->p=true->q=true->r=true->A=true->e=true->f=true->i=true->j=true->g):g:=gS h λa h=>gS h λb h=>gS h λc h=>gS h λd h=>Ac h (k a b c d)
theorem so{a:Bool}(h:(!a)=true):a=false:=by
 induction a with
 |true=>exact aK h
 |false=>rfl
end ai
namespace ai.L1
noncomputable def gZ:Fn:=⟨2,2,[
  .a8 (.ao (.var 0) "bank") (.var 1),
  .a8 (.ao (.var 0) "root") (.dict [] []),
  .a8 (.ao (.var 0) "members") (.dict [] []),
  .a8 (.ao (.var 0) "uses") (.dict [] []),
  .a8 (.ao (.var 0) "value") (.dict [] []),
  .a8 (.ao (.var 0) "apart") (.dict [] []),
  .a8 (.ao (.var 0) "watchers") (.dict [] []),
  .a8 (.ao (.var 0) "up") (.dict [] []),
  .a8 (.ao (.var 0) "table") (.dict [] []),
  .a8 (.ao (.var 0) "sides") (.dict [] []),
  .a8 (.ao (.var 0) "told") (.dict [] []),
  .a8 (.ao (.var 0) "news") (.list []),
  .a8 (.ao (.var 0) "queue") (.list []),
  .a8 (.ao (.var 0) "clash") (.aE .none),
  .a8 (.ao (.var 0) "clash_level") (.aE (.int 0)),
  .a8 (.ao (.var 0) "trail") (.list []),
  .a8 (.ao (.var 0) "marks") (.list [])]⟩
noncomputable def eJ:Fn:=⟨3,3,[
  .ret (.bV .eq (.sub (.ao (.var 0) "root") (.var 1)) (.sub (.ao (.var 0) "root") (.var 2)))]⟩
noncomputable def d4:Fn:=⟨3,5,[
  .a8 (.aA [.var 3,.var 4]) (.aA [.sub (.ao (.var 0) "root") (.var 1),.sub (.ao (.var 0) "root") (.var 2)]),
  .cG (.bV .eq (.var 3) (.var 4)) [
   .ret (.aE .none)] [],
  .cG (.and [.bV .ne (.sub (.ao (.var 0) "value") (.var 3)) (.aE (.int 0)),.bV .ne (.sub (.ao (.var 0) "value") (.var 4)) (.aE (.int 0))]) [
   .ret (.aA [.sub (.ao (.var 0) "value") (.var 3),.sub (.ao (.var 0) "value") (.var 4),.aE (.int 0)])] [],
  .ret (.az (.var 0) "parted_by" [.var 3,.var 4])]⟩
noncomputable def ff:Fn:=⟨1,3,[
  .a8 (.var 1) (.list []),
  .for (.var 2) (.ao (.var 0) "root") [
   .cG (.bV .eq (.sub (.ao (.var 0) "root") (.var 2)) (.var 2)) [
    .expr (.az (.var 1) "append" [.bi .sorted [.sub (.ao (.var 0) "members") (.var 2)]])] []],
  .ret (.bi .sorted [.var 1])]⟩
noncomputable def eX:Fn:=⟨1,1,[
  .ret (.cG (.bV .is (.ao (.var 0) "clash") (.aE .none)) (.aE .none) (.bi .list [.ao (.var 0) "clash"]))]⟩
noncomputable def gz:Fn:=⟨2,2,[
  .cG (.bV .eq (.az (.ao (.var 0) "bank") "op" [.var 1]) (.aE (.str "app"))) [
   .ret (.az (.ao (.var 0) "bank") "args" [.var 1])] [],
  .ret (.aA [])]⟩
noncomputable def eT:Fn:=⟨2,6,[
  .a8 (.var 2) (.list [.var 1]),
  .while (.bV .gt (.bi .cQ [.var 2]) (.aE (.int 0))) [
   .a8 (.var 3) (.sub (.var 2) (.aE (.int (-1)))),
   .a8 (.var 4) (.list []),
   .cG (.bV .eY (.var 3) (.ao (.var 0) "root")) [
    .a8 (.var 4) (.comp (.var 5) 5 (.az (.var 0) "inner" [.var 3]) (U (.bV .eY (.var 5) (.ao (.var 0) "root"))))] [],
   .cG (.bV .gt (.bi .cQ [.var 4]) (.aE (.int 0))) [
    .expr (.az (.var 2) "extend" [.var 4])] [
    .expr (.az (.var 2) "pop" []),
    .cG (.bV .eY (.var 3) (.ao (.var 0) "root")) [
     .expr (.az (.var 0) "enter" [.var 3])] []]],
  .expr (.az (.var 0) "close" [])]⟩
noncomputable def cb:Fn:=⟨2,5,[
  .a8 (.sub (.ao (.var 0) "root") (.var 1)) (.var 1),
  .a8 (.sub (.ao (.var 0) "members") (.var 1)) (.list [.var 1]),
  .a8 (.sub (.ao (.var 0) "uses") (.var 1)) (.list []),
  .a8 (.sub (.ao (.var 0) "apart") (.var 1)) (.list []),
  .a8 (.sub (.ao (.var 0) "watchers") (.var 1)) (.list []),
  .a8 (.sub (.ao (.var 0) "value") (.var 1)) (.cG (.bV .dK (.az (.ao (.var 0) "bank") "op" [.var 1]) (.c4 "VALUE_OPS")) (.var 1) (.aE (.int 0))),
  .a8 (.var 2) (.comp (.sub (.ao (.var 0) "root") (.var 4)) 4 (.az (.var 0) "inner" [.var 1]) (.none)),
  .for (.var 3) (.var 2) [
   .expr (.az (.sub (.ao (.var 0) "uses") (.var 3)) "append" [.var 1])],
  .expr (.az (.ao (.var 0) "trail") "append" [.aA [.aE (.str "enter"),.var 1,.var 2]]),
  .cG (.bV .gt (.bi .cQ [.var 2]) (.aE (.int 0))) [
   .expr (.az (.var 0) "look_up" [.var 1])] []]⟩
noncomputable def eK:Fn:=⟨2,3,[
  .ret (.hQ .add (.aA [.az (.ao (.var 0) "bank") "data" [.var 1]]) (.bi .tuple [.comp (.sub (.ao (.var 0) "root") (.var 2)) 2 (.az (.ao (.var 0) "bank") "args" [.var 1]) (.none)]))]⟩
noncomputable def fj:Fn:=⟨2,4,[
  .a8 (.var 2) (.az (.var 0) "signature" [.var 1]),
  .a8 (.var 3) (.az (.ao (.var 0) "table") "get" [.var 2]),
  .cG (.bV .is (.var 3) (.aE .none)) [
   .expr (.az (.ao (.var 0) "trail") "append" [.aA [.aE (.str "table"),.var 2,.aE .none]]),
   .a8 (.sub (.ao (.var 0) "table") (.var 2)) (.var 1)] [
   .cG (.bV .ne (.sub (.ao (.var 0) "root") (.var 3)) (.sub (.ao (.var 0) "root") (.var 1))) [
    .expr (.az (.ao (.var 0) "queue") "append" [.aA [.var 1,.var 3,.c4 "BY_ARGUMENTS"]])] []]]⟩
noncomputable def gu:Fn:=⟨4,4,[
  .expr (.az (.var 0) "add_term" [.var 1]),
  .expr (.az (.var 0) "add_term" [.var 2]),
  .expr (.az (.ao (.var 0) "queue") "append" [.aA [.var 1,.var 2,.var 3]]),
  .expr (.az (.var 0) "close" [])]⟩
noncomputable def eb:Fn:=⟨1,5,[
  .a8 (.var 1) (.aE (.int 0)),
  .while (.and [.bV .lt (.var 1) (.bi .cQ [.ao (.var 0) "queue"]),.bV .is (.ao (.var 0) "clash") (.aE .none)]) [
   .a8 (.aA [.var 2,.var 3,.var 4]) (.sub (.ao (.var 0) "queue") (.var 1)),
   .a8 (.var 1) (.hQ .add (.var 1) (.aE (.int 1))),
   .cG (.bV .ne (.sub (.ao (.var 0) "root") (.var 2)) (.sub (.ao (.var 0) "root") (.var 3))) [
    .expr (.az (.var 0) "join" [.var 2,.var 3,.var 4])] []],
  .a8 (.ao (.var 0) "queue") (.list [])]⟩
noncomputable def cm:Fn:=⟨4,11,[
  .cG (.bV .gt (.bi .cQ [.sub (.ao (.var 0) "members") (.sub (.ao (.var 0) "root") (.var 1))]) (.bi .cQ [.sub (.ao (.var 0) "members") (.sub (.ao (.var 0) "root") (.var 2))])) [
   .a8 (.aA [.var 1,.var 2]) (.aA [.var 2,.var 1])] [],
  .a8 (.aA [.var 4,.var 5]) (.aA [.sub (.ao (.var 0) "root") (.var 1),.sub (.ao (.var 0) "root") (.var 2)]),
  .expr (.az (.var 0) "hang" [.var 1,.var 2,.var 3]),
  .a8 (.var 6) (.bi .list [.sub (.ao (.var 0) "uses") (.var 4)]),
  .for (.var 7) (.var 6) [
   .expr (.az (.var 0) "take_off" [.var 7])],
  .expr (.az (.ao (.var 0) "trail") "append" [.aA [.aE (.str "join"),.var 4,.var 5,.az (.var 0) "lengths" [.var 5],.sub (.ao (.var 0) "value") (.var 5)]]),
  .for (.var 7) (.sub (.ao (.var 0) "members") (.var 4)) [
   .a8 (.sub (.ao (.var 0) "root") (.var 7)) (.var 5)],
  .expr (.az (.sub (.ao (.var 0) "members") (.var 5)) "extend" [.sub (.ao (.var 0) "members") (.var 4)]),
  .expr (.az (.sub (.ao (.var 0) "uses") (.var 5)) "extend" [.sub (.ao (.var 0) "uses") (.var 4)]),
  .expr (.az (.sub (.ao (.var 0) "apart") (.var 5)) "extend" [.sub (.ao (.var 0) "apart") (.var 4)]),
  .expr (.az (.sub (.ao (.var 0) "watchers") (.var 5)) "extend" [.sub (.ao (.var 0) "watchers") (.var 4)]),
  .a8 (.aA [.var 8,.var 9]) (.aA [.sub (.ao (.var 0) "value") (.var 4),.sub (.ao (.var 0) "value") (.var 5)]),
  .cG (.bV .eq (.var 9) (.aE (.int 0))) [
   .a8 (.sub (.ao (.var 0) "value") (.var 5)) (.var 8)] [],
  .for (.var 7) (.var 6) [
   .expr (.az (.var 0) "look_up" [.var 7])],
  .a8 (.var 10) (.cG (.and [.bV .ne (.var 8) (.aE (.int 0)),.bV .ne (.var 9) (.aE (.int 0))]) (.az (.var 0) "explain" [.var 8,.var 9]) (.az (.var 0) "torn" [.var 4])),
  .cG (.bV .is (.var 10) (.aE .none)) [
   .expr (.az (.var 0) "tell_class" [.var 5])] [
   .expr (.az (.var 0) "note_clash" [.var 10])]]⟩
noncomputable def ek:Fn:=⟨2,2,[
  .a8 (.ao (.var 0) "clash") (.var 1),
  .a8 (.ao (.var 0) "clash_level") (.bi .cQ [.ao (.var 0) "marks"])]⟩
noncomputable def fu:Fn:=⟨2,2,[
  .ret (.aA [.bi .cQ [.sub (.ao (.var 0) "members") (.var 1)],.bi .cQ [.sub (.ao (.var 0) "uses") (.var 1)],.bi .cQ [.sub (.ao (.var 0) "apart") (.var 1)],.bi .cQ [.sub (.ao (.var 0) "watchers") (.var 1)]])]⟩
noncomputable def eW:Fn:=⟨2,3,[
  .a8 (.var 2) (.az (.var 0) "signature" [.var 1]),
  .cG (.bV .eq (.az (.ao (.var 0) "table") "get" [.var 2]) (.var 1)) [
   .expr (.az (.ao (.var 0) "trail") "append" [.aA [.aE (.str "table"),.var 2,.var 1]]),
   .md (.ao (.var 0) "table") (.var 2)] []]⟩
noncomputable def gK:Fn:=⟨2,5,[
  .for (.aA [.var 2,.var 3,.var 4]) (.sub (.ao (.var 0) "apart") (.var 1)) [
   .cG (.bV .eq (.sub (.ao (.var 0) "root") (.var 2)) (.sub (.ao (.var 0) "root") (.var 3))) [
    .ret (.az (.var 0) "with_reason" [.az (.var 0) "explain" [.var 2,.var 3],.var 4])] []],
  .ret (.aE .none)]⟩
noncomputable def dY:Fn:=⟨3,3,[
  .cG (.or [.bV .eq (.var 2) (.aE (.int 0)),.bV .dK (.var 2) (.var 1)]) [
   .ret (.var 1)] [],
  .ret (.bi .sorted [.hQ .add (.var 1) (.list [.var 2])])]⟩
noncomputable def gP:Fn:=⟨4,5,[
  .a8 (.var 4) (.az (.var 0) "turn" [.var 1]),
  .a8 (.sub (.ao (.var 0) "up") (.var 1)) (.aA [.var 2,.var 3]),
  .expr (.az (.ao (.var 0) "trail") "append" [.aA [.aE (.str "edge"),.var 1,.var 4]])]⟩
noncomputable def bP:Fn:=⟨2,6,[
  .a8 (.aA [.var 2,.var 3]) (.aA [.list [],.var 1]),
  .while (.bV .dK (.var 3) (.ao (.var 0) "up")) [
   .a8 (.var 4) (.sub (.ao (.var 0) "up") (.var 3)),
   .expr (.az (.var 2) "append" [.aA [.var 3,.var 4]]),
   .a8 (.var 3) (.sub (.var 4) (.aE (.int 0)))],
  .for (.aA [.var 5,.var 4]) (.var 2) [
   .md (.ao (.var 0) "up") (.var 5)],
  .for (.aA [.var 5,.var 4]) (.var 2) [
   .a8 (.sub (.ao (.var 0) "up") (.sub (.var 4) (.aE (.int 0)))) (.aA [.var 5,.sub (.var 4) (.aE (.int 1))])],
  .ret (.var 3)]⟩
noncomputable def bp:Fn:=⟨3,7,[
  .a8 (.aA [.var 3,.var 4,.var 5]) (.aA [.list [.var 1],.dict [.var 1] [.aE (.int 0)],.var 1]),
  .while (.bV .dK (.var 5) (.ao (.var 0) "up")) [
   .a8 (.var 5) (.sub (.sub (.ao (.var 0) "up") (.var 5)) (.aE (.int 0))),
   .a8 (.sub (.var 4) (.var 5)) (.bi .cQ [.var 3]),
   .expr (.az (.var 3) "append" [.var 5])],
  .a8 (.aA [.var 6,.var 5]) (.aA [.list [],.var 2]),
  .while (.bV .eY (.var 5) (.var 4)) [
   .expr (.az (.var 6) "append" [.var 5]),
   .a8 (.var 5) (.sub (.sub (.ao (.var 0) "up") (.var 5)) (.aE (.int 0)))],
  .ret (.hQ .add (.gk (.var 3) (.sub (.var 4) (.var 5))) (.var 6))]⟩
noncomputable def cK:Fn:=⟨3,11,[
  .cG (.bV .ne (.sub (.ao (.var 0) "root") (.var 1)) (.sub (.ao (.var 0) "root") (.var 2))) [
   .raise] [],
  .a8 (.aA [.var 3,.var 4,.var 5]) (.aA [.list [.aA [.var 1,.var 2]],.dict [] [],.dict [] []]),
  .while (.bV .gt (.bi .cQ [.var 3]) (.aE (.int 0))) [
   .a8 (.aA [.var 6,.var 7]) (.az (.var 3) "pop" []),
   .for (.var 8) (.az (.var 0) "edges_between" [.var 6,.var 7]) [
    .cG (.bV .eY (.var 8) (.var 4)) [
     .a8 (.sub (.var 4) (.var 8)) (.aE (.bool true)),
     .a8 (.aA [.var 9,.var 10]) (.sub (.ao (.var 0) "up") (.var 8)),
     .cG (.bV .eq (.var 10) (.c4 "BY_ARGUMENTS")) [
      .expr (.az (.var 3) "extend" [.bi .e' [.az (.ao (.var 0) "bank") "args" [.var 8],.az (.ao (.var 0) "bank") "args" [.var 9]]])] [
      .cG (.bV .ne (.var 10) (.aE (.int 0))) [
       .a8 (.sub (.var 5) (.var 10)) (.aE (.bool true))] []]] []]],
  .ret (.bi .sorted [.bi .list [.var 5]])]⟩
noncomputable def eU:Fn:=⟨4,6,[
  .expr (.az (.var 0) "add_term" [.var 1]),
  .expr (.az (.var 0) "add_term" [.var 2]),
  .cG (.bV .oM (.ao (.var 0) "clash") (.aE .none)) [
   .ret (.aE .none)] [],
  .a8 (.aA [.var 4,.var 5]) (.aA [.sub (.ao (.var 0) "root") (.var 1),.sub (.ao (.var 0) "root") (.var 2)]),
  .cG (.bV .eq (.var 4) (.var 5)) [
   .expr (.az (.var 0) "note_clash" [.az (.var 0) "with_reason" [.az (.var 0) "explain" [.var 1,.var 2],.var 3]]),
   .ret (.aE .none)] [],
  .expr (.az (.sub (.ao (.var 0) "apart") (.var 4)) "append" [.aA [.var 1,.var 2,.var 3]]),
  .expr (.az (.sub (.ao (.var 0) "apart") (.var 5)) "append" [.aA [.var 1,.var 2,.var 3]]),
  .expr (.az (.ao (.var 0) "trail") "append" [.aA [.aE (.str "apart"),.var 4,.var 5]]),
  .expr (.az (.var 0) "tell_class" [.var 4])]⟩
noncomputable def c2:Fn:=⟨3,6,[
  .for (.aA [.var 3,.var 4,.var 5]) (.sub (.ao (.var 0) "apart") (.var 1)) [
   .cG (.and [.bV .eq (.sub (.ao (.var 0) "root") (.var 3)) (.var 1),.bV .eq (.sub (.ao (.var 0) "root") (.var 4)) (.var 2)]) [
    .ret (.aA [.var 3,.var 4,.var 5])] [],
   .cG (.and [.bV .eq (.sub (.ao (.var 0) "root") (.var 3)) (.var 2),.bV .eq (.sub (.ao (.var 0) "root") (.var 4)) (.var 1)]) [
    .ret (.aA [.var 4,.var 3,.var 5])] []],
  .ret (.aE .none)]⟩
noncomputable def du:Fn:=⟨4,7,[
  .a8 (.aA [.var 4,.var 5,.var 6]) (.var 3),
  .ret (.az (.var 0) "with_reason" [.az (.var 0) "joined" [.az (.var 0) "explain" [.var 1,.var 4],.az (.var 0) "explain" [.var 2,.var 5]],.var 6])]⟩
noncomputable def fN:Fn:=⟨3,4,[
  .ret (.bi .sorted [.hQ .add (.var 1) (.comp (.var 3) 3 (.var 2) (U (.bV .eY (.var 3) (.var 1))))])]⟩
noncomputable def gs:Fn:=⟨2,4,[
  .cG (.bV .dK (.var 1) (.ao (.var 0) "sides")) [
   .ret (.aE .none)] [],
  .a8 (.aA [.var 2,.var 3]) (.aA [.var 1,.az (.ao (.var 0) "bank") "true_term" []]),
  .cG (.bV .eq (.az (.ao (.var 0) "bank") "op" [.var 1]) (.aE (.str "="))) [
   .a8 (.aA [.var 2,.var 3]) (.az (.ao (.var 0) "bank") "args" [.var 1])] [],
  .expr (.az (.var 0) "add_term" [.var 2]),
  .expr (.az (.var 0) "add_term" [.var 3]),
  .expr (.az (.var 0) "place_watch" [.var 1,.var 2,.var 3])]⟩
noncomputable def d3:Fn:=⟨4,6,[
  .a8 (.aA [.var 4,.var 5]) (.aA [.sub (.ao (.var 0) "root") (.var 2),.sub (.ao (.var 0) "root") (.var 3)]),
  .a8 (.sub (.ao (.var 0) "sides") (.var 1)) (.aA [.var 2,.var 3]),
  .expr (.az (.sub (.ao (.var 0) "watchers") (.var 4)) "append" [.var 1]),
  .cG (.bV .ne (.var 4) (.var 5)) [
   .expr (.az (.sub (.ao (.var 0) "watchers") (.var 5)) "append" [.var 1])] [],
  .expr (.az (.ao (.var 0) "trail") "append" [.aA [.aE (.str "watch"),.var 1,.var 4,.var 5]]),
  .expr (.az (.var 0) "tell" [.var 1])]⟩
noncomputable def eh:Fn:=⟨2,3,[
  .for (.var 2) (.sub (.ao (.var 0) "watchers") (.var 1)) [
   .expr (.az (.var 0) "tell" [.var 2])]]⟩
noncomputable def gQ:Fn:=⟨2,5,[
  .cG (.bV .dK (.var 1) (.ao (.var 0) "told")) [
   .ret (.aE .none)] [],
  .a8 (.aA [.var 2,.var 3]) (.sub (.ao (.var 0) "sides") (.var 1)),
  .cG (.az (.var 0) "are_equal" [.var 2,.var 3]) [
   .a8 (.sub (.ao (.var 0) "told") (.var 1)) (.aA [.aE (.int 1),.aE .none])] [
   .a8 (.var 4) (.az (.var 0) "cause_apart" [.var 2,.var 3]),
   .cG (.bV .is (.var 4) (.aE .none)) [
    .ret (.aE .none)] [],
   .a8 (.sub (.ao (.var 0) "told") (.var 1)) (.aA [.aE (.int (-1)),.var 4])],
  .expr (.az (.ao (.var 0) "news") "append" [.var 1]),
  .expr (.az (.ao (.var 0) "trail") "append" [.aA [.aE (.str "told"),.var 1]])]⟩
noncomputable def fm:Fn:=⟨1,4,[
  .a8 (.aA [.var 1,.var 2]) (.aA [.list [],.dict [] []]),
  .for (.var 3) (.ao (.var 0) "news") [
   .cG (.and [.bV .dK (.var 3) (.ao (.var 0) "told"),.bV .eY (.var 3) (.var 2)]) [
    .a8 (.sub (.var 2) (.var 3)) (.aE (.bool true)),
    .expr (.az (.var 1) "append" [.aA [.var 3,.sub (.sub (.ao (.var 0) "told") (.var 3)) (.aE (.int 0))]])] []],
  .a8 (.ao (.var 0) "news") (.list []),
  .ret (.var 1)]⟩
noncomputable def dR:Fn:=⟨2,6,[
  .a8 (.aA [.var 2,.var 3]) (.sub (.ao (.var 0) "sides") (.var 1)),
  .a8 (.aA [.var 4,.var 5]) (.sub (.ao (.var 0) "told") (.var 1)),
  .cG (.bV .eq (.var 4) (.aE (.int 1))) [
   .ret (.az (.var 0) "explain" [.var 2,.var 3])] [],
  .ret (.az (.var 0) "explain_cause" [.var 2,.var 3,.var 5])]⟩
noncomputable def eu:Fn:=⟨1,1,[
  .expr (.az (.ao (.var 0) "marks") "append" [.bi .cQ [.ao (.var 0) "trail"]])]⟩
noncomputable def cX:Fn:=⟨2,9,[
  .cG (.bV .le (.var 1) (.aE (.int 0))) [
   .ret (.aE .none)] [],
  .a8 (.var 2) (.sub (.ao (.var 0) "marks") (.hQ .sub (.bi .cQ [.ao (.var 0) "marks"]) (.var 1))),
  .a8 (.ao (.var 0) "marks") (.gk (.ao (.var 0) "marks") (.hQ .sub (.bi .cQ [.ao (.var 0) "marks"]) (.var 1))),
  .a8 (.aA [.var 3,.var 4]) (.aA [.list [],.list []]),
  .while (.bV .gt (.bi .cQ [.ao (.var 0) "trail"]) (.var 2)) [
   .expr (.az (.var 0) "undo" [.az (.ao (.var 0) "trail") "pop" [],.var 3,.var 4])],
  .a8 (.ao (.var 0) "queue") (.list []),
  .cG (.and [.bV .oM (.ao (.var 0) "clash") (.aE .none),.bV .lt (.bi .cQ [.ao (.var 0) "marks"]) (.ao (.var 0) "clash_level")]) [
   .a8 (.ao (.var 0) "clash") (.aE .none)] [],
  .a8 (.ao (.var 0) "news") (.comp (.var 8) 8 (.ao (.var 0) "news") (U (.bV .dK (.var 8) (.ao (.var 0) "told")))),
  .for (.var 5) (.ED (.var 3)) [
   .expr (.az (.var 0) "enter" [.var 5])],
  .expr (.az (.var 0) "close" []),
  .for (.aA [.var 5,.var 6,.var 7]) (.ED (.var 4)) [
   .expr (.az (.var 0) "place_watch" [.var 5,.var 6,.var 7])]]⟩
noncomputable def gO:Fn:=⟨4,7,[
  .a8 (.var 4) (.sub (.var 1) (.aE (.int 0))),
  .cG (.bV .eq (.var 4) (.aE (.str "enter"))) [
   .expr (.az (.var 0) "leave" [.sub (.var 1) (.aE (.int 1)),.sub (.var 1) (.aE (.int 2))]),
   .expr (.az (.var 2) "append" [.sub (.var 1) (.aE (.int 1))])] [
   .cG (.bV .eq (.var 4) (.aE (.str "table"))) [
    .cG (.bV .is (.sub (.var 1) (.aE (.int 2))) (.aE .none)) [
     .md (.ao (.var 0) "table") (.sub (.var 1) (.aE (.int 1)))] [
     .a8 (.sub (.ao (.var 0) "table") (.sub (.var 1) (.aE (.int 1)))) (.sub (.var 1) (.aE (.int 2)))]] [
    .cG (.bV .eq (.var 4) (.aE (.str "join"))) [
     .expr (.az (.var 0) "part" [.sub (.var 1) (.aE (.int 1)),.sub (.var 1) (.aE (.int 2)),.sub (.var 1) (.aE (.int 3)),.sub (.var 1) (.aE (.int 4))])] [
     .cG (.bV .eq (.var 4) (.aE (.str "edge"))) [
      .md (.ao (.var 0) "up") (.sub (.var 1) (.aE (.int 1))),
      .expr (.az (.var 0) "turn" [.sub (.var 1) (.aE (.int 2))])] [
      .cG (.bV .eq (.var 4) (.aE (.str "apart"))) [
       .expr (.az (.sub (.ao (.var 0) "apart") (.sub (.var 1) (.aE (.int 1)))) "pop" []),
       .expr (.az (.sub (.ao (.var 0) "apart") (.sub (.var 1) (.aE (.int 2)))) "pop" [])] [
       .cG (.bV .eq (.var 4) (.aE (.str "watch"))) [
        .a8 (.aA [.var 5,.var 6]) (.sub (.ao (.var 0) "sides") (.sub (.var 1) (.aE (.int 1)))),
        .expr (.az (.var 3) "append" [.aA [.sub (.var 1) (.aE (.int 1)),.var 5,.var 6]]),
        .expr (.az (.var 0) "unwatch" [.sub (.var 1) (.aE (.int 1)),.sub (.var 1) (.aE (.int 2)),.sub (.var 1) (.aE (.int 3))])] [
        .md (.ao (.var 0) "told") (.sub (.var 1) (.aE (.int 1)))]]]]]]]⟩
noncomputable def gB:Fn:=⟨3,5,[
  .for (.var 3) (.var 2) [
   .expr (.az (.sub (.ao (.var 0) "uses") (.var 3)) "pop" [])],
  .for (.var 4) (.aA [.ao (.var 0) "root",.ao (.var 0) "members",.ao (.var 0) "uses",.ao (.var 0) "value",.ao (.var 0) "apart",.ao (.var 0) "watchers"]) [
   .md (.var 4) (.var 1)]]⟩
noncomputable def gW:Fn:=⟨5,6,[
  .a8 (.sub (.ao (.var 0) "members") (.var 2)) (.gk (.sub (.ao (.var 0) "members") (.var 2)) (.sub (.var 3) (.aE (.int 0)))),
  .a8 (.sub (.ao (.var 0) "uses") (.var 2)) (.gk (.sub (.ao (.var 0) "uses") (.var 2)) (.sub (.var 3) (.aE (.int 1)))),
  .a8 (.sub (.ao (.var 0) "apart") (.var 2)) (.gk (.sub (.ao (.var 0) "apart") (.var 2)) (.sub (.var 3) (.aE (.int 2)))),
  .a8 (.sub (.ao (.var 0) "watchers") (.var 2)) (.gk (.sub (.ao (.var 0) "watchers") (.var 2)) (.sub (.var 3) (.aE (.int 3)))),
  .a8 (.sub (.ao (.var 0) "value") (.var 2)) (.var 4),
  .for (.var 5) (.sub (.ao (.var 0) "members") (.var 1)) [
   .a8 (.sub (.ao (.var 0) "root") (.var 5)) (.var 1)]]⟩
noncomputable def fh:Fn:=⟨4,4,[
  .expr (.az (.sub (.ao (.var 0) "watchers") (.var 2)) "pop" []),
  .cG (.bV .ne (.var 2) (.var 3)) [
   .expr (.az (.sub (.ao (.var 0) "watchers") (.var 3)) "pop" [])] [],
  .md (.ao (.var 0) "sides") (.var 1)]⟩
noncomputable def iJ:Fn:=⟨1,1,[
  .a8 (.ao (.var 0) "sort_names") (.list [.aE (.str "Bool"),.aE (.str "Int"),.aE (.str "Real")]),
  .a8 (.ao (.var 0) "sort_widths") (.list [.aE (.int 0),.aE (.int 0),.aE (.int 0)]),
  .a8 (.ao (.var 0) "fun_names") (.list []),
  .a8 (.ao (.var 0) "fun_args") (.list []),
  .a8 (.ao (.var 0) "fun_results") (.list []),
  .a8 (.ao (.var 0) "fresh_count") (.aE (.int 0)),
  .a8 (.ao (.var 0) "term_ops") (.list [.aE (.str "")]),
  .a8 (.ao (.var 0) "term_args") (.list [.aA []]),
  .a8 (.ao (.var 0) "term_sorts") (.list [.c4 "BOOL"]),
  .a8 (.ao (.var 0) "term_datas") (.list [.aE (.int 0)]),
  .a8 (.ao (.var 0) "numbers") (.dict [] []),
  .a8 (.ao (.var 0) "true_number") (.az (.var 0) "make" [.aE (.str "true"),.aA [],.c4 "BOOL",.aE (.int 0)]),
  .a8 (.ao (.var 0) "false_number") (.az (.var 0) "make" [.aE (.str "false"),.aA [],.c4 "BOOL",.aE (.int 0)])]⟩
noncomputable def ea:Fn:=⟨4,4,[
  .expr (.az (.ao (.var 0) "fun_names") "append" [.var 1]),
  .expr (.az (.ao (.var 0) "fun_args") "append" [.bi .tuple [.var 2]]),
  .expr (.az (.ao (.var 0) "fun_results") "append" [.var 3]),
  .ret (.hQ .sub (.bi .cQ [.ao (.var 0) "fun_names"]) (.aE (.int 1)))]⟩
noncomputable def d':Fn:=⟨3,3,[
  .ret (.az (.var 0) "make" [.aE (.str "app"),.aA [],.var 2,.az (.var 0) "declare_fun" [.var 1,.aA [],.var 2]])]⟩
noncomputable def pP:Fn:=⟨2,2,[
  .ret (.sub (.ao (.var 0) "term_ops") (.var 1))]⟩
noncomputable def lG:Fn:=⟨2,2,[
  .ret (.sub (.ao (.var 0) "term_args") (.var 1))]⟩
noncomputable def lU:Fn:=⟨2,2,[
  .ret (.sub (.ao (.var 0) "term_sorts") (.var 1))]⟩
noncomputable def lR:Fn:=⟨2,2,[
  .ret (.sub (.ao (.var 0) "term_datas") (.var 1))]⟩
noncomputable def lX:Fn:=⟨5,7,[
  .a8 (.var 5) (.aA [.var 1,.var 2,.var 3,.var 4]),
  .a8 (.var 6) (.az (.ao (.var 0) "numbers") "get" [.var 5,.aE (.int 0)]),
  .cG (.bV .eq (.var 6) (.aE (.int 0))) [
   .a8 (.var 6) (.bi .cQ [.ao (.var 0) "term_ops"]),
   .expr (.az (.ao (.var 0) "term_ops") "append" [.var 1]),
   .expr (.az (.ao (.var 0) "term_args") "append" [.var 2]),
   .expr (.az (.ao (.var 0) "term_sorts") "append" [.var 3]),
   .expr (.az (.ao (.var 0) "term_datas") "append" [.var 4]),
   .a8 (.sub (.ao (.var 0) "numbers") (.var 5)) (.var 6)] [],
  .ret (.var 6)]⟩
noncomputable def hw:Fn:=⟨1,1,[
  .ret (.ao (.var 0) "true_number")]⟩
noncomputable def oJ:Fn:=⟨2,3,[
  .a8 (.var 2) (.sub (.var 0) (.aE (.str "spot"))),
  .a8 (.sub (.var 0) (.aE (.str "spot"))) (.hQ .add (.var 2) (.aE (.int 1))),
  .cG (.bV .lt (.var 2) (.bi .cQ [.sub (.var 0) (.aE (.str "cells"))])) [
   .ret (.hQ .CV (.bi .int [.sub (.sub (.var 0) (.aE (.str "cells"))) (.var 2)]) (.var 1))] [],
  .ret (.hQ .CV (.hQ .CV (.bi .int [.hQ .add (.hQ .add (.hQ .mul (.hQ .mul (.aE (.int 11)) (.var 2)) (.var 2)) (.hQ .mul (.aE (.int 5)) (.var 2))) (.hQ .mul (.aE (.int 3)) (.bi .cQ [.sub (.var 0) (.aE (.str "cells"))]))]) (.aE (.int 89))) (.var 1))]⟩
noncomputable def l8:Fn:=⟨1,7,[
  .a8 (.var 1) (.az (.var 0) "declare_fun" [.aE (.str "f"),.aA [.c4 "INT"],.c4 "INT"]),
  .a8 (.var 2) (.comp (.az (.var 0) "fresh_const" [.var 6,.c4 "INT"]) 6 (.aA [.aE (.str "a"),.aE (.str "b"),.aE (.str "c"),.aE (.str "d")]) (.none)),
  .a8 (.var 2) (.hQ .add (.var 2) (.list [.az (.var 0) "make" [.aE (.str "num"),.aA [],.c4 "INT",.aA [.aE (.int 0),.aE (.int 1)]],.az (.var 0) "make" [.aE (.str "num"),.aA [],.c4 "INT",.aA [.aE (.int 1),.aE (.int 1)]]])),
  .a8 (.var 3) (.dict [] []),
  .for (.var 4) (.bi .range [.aE (.int 3)]) [
   .a8 (.var 5) (.az (.var 0) "make" [.aE (.str "app"),.aA [.sub (.var 2) (.var 4)],.c4 "INT",.var 1]),
   .a8 (.sub (.var 3) (.var 5)) (.sub (.var 2) (.var 4)),
   .expr (.az (.var 2) "append" [.var 5])],
  .ret (.aA [.var 2,.var 3])]⟩
noncomputable def c3:Fn:=⟨3,16,[
  .a8 (.var 3) (.dict [] []),
  .for (.var 4) (.bi .range [.bi .cQ [.var 0]]) [
   .a8 (.sub (.var 3) (.sub (.var 0) (.var 4))) (.var 4)],
  .a8 (.var 5) (.comp (.aA [.sub (.var 14) (.aE (.int 1)),.sub (.var 14) (.aE (.int 2))]) 14 (.var 2) (U (.bV .eq (.sub (.var 14) (.aE (.int 0))) (.aE (.str "tie"))))),
  .a8 (.var 6) (.aE (.bool true)),
  .while (.var 6) [
   .a8 (.var 6) (.aE (.bool false)),
   .a8 (.var 7) (.comp (.var 15) 15 (.var 0) (U (.bV .dK (.var 15) (.var 1)))),
   .for (.var 8) (.bi .range [.bi .cQ [.var 7]]) [
    .for (.var 4) (.bi .range [.var 8]) [
     .cG (.bV .eq (.sub (.var 3) (.sub (.var 1) (.sub (.var 7) (.var 8)))) (.sub (.var 3) (.sub (.var 1) (.sub (.var 7) (.var 4))))) [
      .expr (.az (.var 5) "append" [.aA [.sub (.var 7) (.var 8),.sub (.var 7) (.var 4)]])] []]],
   .for (.aA [.var 9,.var 10]) (.var 5) [
    .a8 (.aA [.var 11,.var 12]) (.aA [.sub (.var 3) (.var 9),.sub (.var 3) (.var 10)]),
    .cG (.bV .ne (.var 11) (.var 12)) [
     .a8 (.var 6) (.aE (.bool true)),
     .for (.var 13) (.var 0) [
      .cG (.bV .eq (.sub (.var 3) (.var 13)) (.var 11)) [
       .a8 (.sub (.var 3) (.var 13)) (.var 12)] []]] []],
   .a8 (.var 5) (.list [])],
  .ret (.var 3)]⟩
noncomputable def iG:Fn:=⟨5,10,[
  .a8 (.var 5) (.bi .sorted [.list [.sub (.var 2) (.var 3),.sub (.var 2) (.var 4)]]),
  .a8 (.var 6) (.list [.aA [.sub (.sub (.var 0) (.aE (.str "some"))) (.aE (.int 4)),.sub (.sub (.var 0) (.aE (.str "some"))) (.aE (.int 5))]]),
  .a8 (.var 6) (.hQ .add (.var 6) (.comp (.aA [.sub (.var 9) (.aE (.int 1)),.sub (.var 9) (.aE (.int 2))]) 9 (.var 1) (U (.bV .eq (.sub (.var 9) (.aE (.int 0))) (.aE (.str "part")))))),
  .for (.aA [.var 7,.var 8]) (.var 6) [
   .cG (.and [.bV .eq (.bi .sorted [.list [.sub (.var 2) (.var 7),.sub (.var 2) (.var 8)]]) (.var 5),.bV .ne (.sub (.var 5) (.aE (.int 0))) (.sub (.var 5) (.aE (.int 1)))]) [
    .ret (.aE (.bool true))] []],
  .ret (.aE (.bool false))]⟩
noncomputable def iL:Fn:=⟨1,3,[
  .a8 (.var 1) (.list []),
  .for (.var 2) (.sub (.var 0) (.aE (.str "levels"))) [
   .a8 (.var 1) (.hQ .add (.var 1) (.var 2))],
  .ret (.var 1)]⟩
noncomputable def jC:Fn:=⟨3,7,[
  .a8 (.var 3) (.list [.aA [.sub (.sub (.var 0) (.aE (.str "some"))) (.aE (.int 4)),.sub (.sub (.var 0) (.aE (.str "some"))) (.aE (.int 5))]]),
  .a8 (.var 3) (.hQ .add (.var 3) (.comp (.aA [.sub (.var 6) (.aE (.int 1)),.sub (.var 6) (.aE (.int 2))]) 6 (.var 1) (U (.bV .eq (.sub (.var 6) (.aE (.int 0))) (.aE (.str "part")))))),
  .for (.aA [.var 4,.var 5]) (.var 3) [
   .cG (.bV .eq (.sub (.var 2) (.var 4)) (.sub (.var 2) (.var 5))) [
    .ret (.aE (.bool true))] []],
  .ret (.aE (.bool false))]⟩
noncomputable def jG:Fn:=⟨6,10,[
  .cG (.or [.not (.bi .g8 [.var 1]),.bV .ne (.var 1) (.bi .sorted [.var 1])]) [
   .ret (.aE (.bool false))] [],
  .for (.var 6) (.bi .range [.bi .cQ [.var 1]]) [
   .cG (.or [.bV .eY (.sub (.var 1) (.var 6)) (.var 2),.bV .dK (.sub (.var 1) (.var 6)) (.gk (.var 1) (.var 6))]) [
    .ret (.aE (.bool false))] []],
  .a8 (.var 7) (.comp (.var 9) 9 (.call "_law_standing" [.var 0]) (U (.bV .dK (.sub (.var 9) (.aE (.int 3))) (.var 1)))),
  .a8 (.var 8) (.call "_law_closed" [.sub (.var 0) (.aE (.str "some")),.sub (.var 0) (.aE (.str "inner")),.var 7]),
  .cG (.bV .eq (.var 5) (.aE (.int 1))) [
   .ret (.bV .eq (.sub (.var 8) (.var 3)) (.sub (.var 8) (.var 4)))] [],
  .ret (.call "_law_is_apart" [.var 0,.var 7,.var 8,.var 3,.var 4])]⟩
noncomputable def gN:Fn:=⟨4,10,[
  .a8 (.var 4) (.bi .cQ [.sub (.var 0) (.aE (.str "levels"))]),
  .for (.aA [.var 5,.var 6]) (.az (.var 1) "implied" []) [
   .cG (.or [.bV .eY (.var 5) (.sub (.var 0) (.aE (.str "watched"))),.bV .dK (.var 5) (.sub (.var 0) (.aE (.str "told")))]) [
    .ret (.aE (.bool false))] [],
   .a8 (.sub (.sub (.var 0) (.aE (.str "told"))) (.var 5)) (.aA [.var 6,.var 3,.var 4])],
  .a8 (.var 7) (.sub (.var 0) (.aE (.str "some"))),
  .for (.var 8) (.bi .range [.bi .cQ [.var 7]]) [
   .for (.var 9) (.bi .range [.var 8]) [
    .cG (.and [.bV .eq (.sub (.var 2) (.sub (.var 7) (.var 8))) (.sub (.var 2) (.sub (.var 7) (.var 9))),.bV .eY (.aA [.var 8,.var 9]) (.sub (.var 0) (.aE (.str "equal")))]) [
     .a8 (.sub (.sub (.var 0) (.aE (.str "equal"))) (.aA [.var 8,.var 9])) (.aA [.var 3,.var 4])] []]],
  .ret (.aE (.bool true))]⟩
noncomputable def eo:Fn:=⟨3,12,[
  .for (.var 3) (.bi .sorted [.sub (.var 0) (.aE (.str "told"))]) [
   .a8 (.aA [.var 4,.var 5,.var 6]) (.sub (.sub (.var 0) (.aE (.str "told"))) (.var 3)),
   .a8 (.aA [.var 7,.var 8]) (.sub (.sub (.var 0) (.aE (.str "watched"))) (.var 3)),
   .cG (.not (.call "_law_is_good" [.var 0,.az (.var 1) "explain_told" [.var 3],.var 5,.var 7,.var 8,.var 4])) [
    .ret (.aE (.bool false))] []],
  .a8 (.var 9) (.bi .sorted [.sub (.var 0) (.aE (.str "equal"))]),
  .cG (.bV .ne (.var 9) (.list [])) [
   .a8 (.aA [.var 10,.var 11]) (.sub (.var 9) (.hQ .CV (.var 2) (.bi .cQ [.var 9]))),
   .a8 (.aA [.var 7,.var 8]) (.aA [.sub (.sub (.var 0) (.aE (.str "some"))) (.var 10),.sub (.sub (.var 0) (.aE (.str "some"))) (.var 11)]),
   .ret (.call "_law_is_good" [.var 0,.az (.var 1) "explain" [.var 7,.var 8],.sub (.sub (.sub (.var 0) (.aE (.str "equal"))) (.aA [.var 10,.var 11])) (.aE (.int 0)),.var 7,.var 8,.aE (.int 1)])] [],
  .ret (.aE (.bool true))]⟩
noncomputable def bq:Fn:=⟨3,8,[
  .expr (.az (.var 1) "pop_levels" [.var 2]),
  .a8 (.sub (.var 0) (.aE (.str "levels"))) (.gk (.sub (.var 0) (.aE (.str "levels"))) (.hQ .sub (.bi .cQ [.sub (.var 0) (.aE (.str "levels"))]) (.var 2))),
  .a8 (.var 3) (.bi .cQ [.sub (.var 0) (.aE (.str "levels"))]),
  .a8 (.aA [.var 4,.var 5]) (.aA [.dict [] [],.dict [] []]),
  .for (.var 6) (.sub (.var 0) (.aE (.str "told"))) [
   .cG (.bV .le (.sub (.sub (.sub (.var 0) (.aE (.str "told"))) (.var 6)) (.aE (.int 2))) (.var 3)) [
    .a8 (.sub (.var 4) (.var 6)) (.sub (.sub (.var 0) (.aE (.str "told"))) (.var 6))] []],
  .for (.var 7) (.sub (.var 0) (.aE (.str "equal"))) [
   .cG (.bV .le (.sub (.sub (.sub (.var 0) (.aE (.str "equal"))) (.var 7)) (.aE (.int 1))) (.var 3)) [
    .a8 (.sub (.var 5) (.var 7)) (.sub (.sub (.var 0) (.aE (.str "equal"))) (.var 7))] []],
  .a8 (.aA [.sub (.var 0) (.aE (.str "told")),.sub (.var 0) (.aE (.str "equal"))]) (.aA [.var 4,.var 5])]⟩
noncomputable def m8:Fn:=⟨6,6,[
  .cG (.bV .lt (.var 2) (.aE (.int 4))) [
   .expr (.az (.sub (.sub (.var 0) (.aE (.str "levels"))) (.aE (.int (-1)))) "append" [.aA [.aE (.str "tie"),.var 3,.var 4,.var 5]]),
   .expr (.az (.var 1) "merge" [.var 3,.var 4,.var 5])] [
   .cG (.and [.bV .lt (.var 2) (.aE (.int 6)),.bV .ne (.var 3) (.var 4)]) [
    .expr (.az (.sub (.sub (.var 0) (.aE (.str "levels"))) (.aE (.int (-1)))) "append" [.aA [.aE (.str "part"),.var 3,.var 4,.var 5]]),
    .expr (.az (.var 1) "separate" [.var 3,.var 4,.var 5])] [
    .cG (.bV .eq (.var 2) (.aE (.int 6))) [
     .expr (.az (.sub (.var 0) (.aE (.str "levels"))) "append" [.list []]),
     .expr (.az (.var 1) "push_level" [])] [
     .cG (.and [.bV .eq (.var 2) (.aE (.int 7)),.bV .gt (.bi .cQ [.sub (.var 0) (.aE (.str "levels"))]) (.aE (.int 1))]) [
      .expr (.call "_law_taken_back" [.var 0,.var 1,.hQ .add (.aE (.int 1)) (.hQ .CV (.bi .int [.var 3]) (.hQ .sub (.bi .cQ [.sub (.var 0) (.aE (.str "levels"))]) (.aE (.int 1))))])] []]]]]⟩
noncomputable def g7:Fn:=⟨4,9,[
  .a8 (.var 4) (.sub (.var 1) (.aE (.str "some"))),
  .for (.var 5) (.bi .range [.aE (.int 3)]) [
   .a8 (.aA [.var 6,.var 7]) (.aA [.sub (.var 4) (.call "_law_next" [.var 0,.aE (.int 9)]),.sub (.var 4) (.call "_law_next" [.var 0,.aE (.int 9)])]),
   .cG (.bV .ne (.var 6) (.var 7)) [
    .a8 (.var 8) (.az (.var 3) "make" [.aE (.str "="),.aA [.bi .min [.var 6,.var 7],.bi .max [.var 6,.var 7]],.c4 "BOOL",.aE (.int 0)]),
    .a8 (.sub (.sub (.var 1) (.aE (.str "watched"))) (.var 8)) (.aA [.var 6,.var 7]),
    .expr (.az (.var 2) "watch" [.var 8])] []]]⟩
noncomputable def lJ:Fn:=⟨1,17,[
  .a8 (.var 1) (.dict [.str "cells",.str "spot"] [.bi .list [.gk (.var 0) (.aE (.int 50))],.aE (.int 0)]),
  .a8 (.aA [.var 2,.var 3]) (.aA [.new "Bank" [],.hQ .add (.aE (.int 1)) (.call "_law_next" [.var 1,.aE (.int 9)])]),
  .a8 (.aA [.var 4,.var 5]) (.call "_law_terms" [.var 2]),
  .a8 (.var 6) (.new "Congruence" [.var 2]),
  .a8 (.var 7) (.dict [.str "some",.str "inner",.str "levels",.str "watched",.str "told",.str "equal"] [.var 4,.var 5,.list [.list []],.dict [] [],.dict [] [],.dict [] []]),
  .for (.var 8) (.var 4) [
   .expr (.az (.var 6) "add_term" [.var 8])],
  .expr (.call "_law_watched" [.var 1,.var 7,.var 6,.var 2]),
  .for (.var 9) (.bi .range [.var 3]) [
   .a8 (.aA [.var 10,.var 11,.var 12]) (.aA [.call "_law_next" [.var 1,.aE (.int 8)],.sub (.var 4) (.call "_law_next" [.var 1,.aE (.int 9)]),.sub (.var 4) (.call "_law_next" [.var 1,.aE (.int 9)])]),
   .a8 (.var 13) (.hQ .mul (.hQ .add (.var 9) (.aE (.int 2))) (.hQ .sub (.aE (.int 1)) (.hQ .mul (.aE (.int 2)) (.call "_law_next" [.var 1,.aE (.int 2)])))),
   .expr (.call "_law_done" [.var 7,.var 6,.var 10,.var 11,.var 12,.var 13]),
   .a8 (.var 14) (.call "_law_standing" [.var 7]),
   .a8 (.var 15) (.call "_law_closed" [.var 4,.var 5,.var 14]),
   .cG (.call "_law_clashes" [.var 7,.var 14,.var 15]) [
    .cG (.bV .is (.az (.var 6) "conflict" []) (.aE .none)) [
     .ret (.aE (.bool false))] [],
    .cG (.bV .eq (.bi .cQ [.sub (.var 7) (.aE (.str "levels"))]) (.aE (.int 1))) [
     .ret (.aE (.bool true))] [],
    .expr (.call "_law_taken_back" [.var 7,.var 6,.aE (.int 1)]),
    .a8 (.var 14) (.call "_law_standing" [.var 7]),
    .a8 (.var 15) (.call "_law_closed" [.var 4,.var 5,.var 14])] [],
   .cG (.or [.bV .oM (.az (.var 6) "conflict" []) (.aE .none),.not (.call "_law_noted" [.var 7,.var 6,.var 15,.comp (.sub (.var 16) (.aE (.int 3))) 16 (.var 14) (.none)])]) [
    .ret (.aE (.bool false))] [],
   .cG (.not (.call "_law_asked" [.var 7,.var 6,.var 9])) [
    .ret (.aE (.bool false))] []],
  .ret (.aE (.bool true))]⟩
noncomputable def bt:List (String×Fn×List String):=[
 ("Congruence.__init__",gZ,["self","bank"]),
 ("Congruence.are_equal",eJ,["self","a","b"]),
 ("Congruence.cause_apart",d4,["self","a","b","one","other"]),
 ("Congruence.classes",ff,["self","found","t"]),
 ("Congruence.conflict",eX,["self"]),
 ("Congruence.inner",gz,["self","t"]),
 ("Congruence.add_term",eT,["self","t","stack","here","missing"]),
 ("Congruence.enter",cb,["self","t","homes","home"]),
 ("Congruence.signature",eK,["self","t"]),
 ("Congruence.look_up",fj,["self","t","mark","other"]),
 ("Congruence.merge",gu,["self","a","b","reason"]),
 ("Congruence.close",eb,["self","spot","left","right","why"]),
 ("Congruence.join",cm,["self","left","right","why","small","large","moved","t","first","second","reasons"]),
 ("Congruence.note_clash",ek,["self","reasons"]),
 ("Congruence.lengths",fu,["self","home"]),
 ("Congruence.take_off",eW,["self","t","mark"]),
 ("Congruence.torn",gK,["self","small","left","right","reason"]),
 ("Congruence.with_reason",dY,["self","reasons","reason"]),
 ("Congruence.hang",gP,["self","left","right","why","top"]),
 ("Congruence.turn",bP,["self","t","chain","here","edge","child"]),
 ("Congruence.edges_between",bp,["self","a","b","line","spots","here","back"]),
 ("Congruence.explain",cK,["self","a","b","work","seen","found","one","other","child","after","why"]),
 ("Congruence.separate",eU,["self","a","b","reason","one","other"]),
 ("Congruence.parted_by",c2,["self","one","other","left","right","reason"]),
 ("Congruence.explain_cause",du,["self","a","b","cause","left","right","reason"]),
 ("Congruence.joined",fN,["self","some","more"]),
 ("Congruence.watch",gs,["self","t","left","right"]),
 ("Congruence.place_watch",d3,["self","t","left","right","one","other"]),
 ("Congruence.tell_class",eh,["self","home","t"]),
 ("Congruence.tell",gQ,["self","t","left","right","cause"]),
 ("Congruence.implied",fm,["self","found","seen","t"]),
 ("Congruence.explain_told",dR,["self","t","left","right","truth","cause"]),
 ("Congruence.push_level",eu,["self"]),
 ("Congruence.pop_levels",cX,["self","n","spot","entered","watched","t","left","right"]),
 ("Congruence.undo",gO,["self","entry","entered","watched","kind","left","right"]),
 ("Congruence.leave",gB,["self","t","homes","home","held"]),
 ("Congruence.part",gW,["self","small","large","lengths","value","t"]),
 ("Congruence.unwatch",fh,["self","t","one","other"]),
 ("Bank.__init__",iJ,["self"]),
 ("Bank.declare_fun",ea,["self","name","arg_sorts","result"]),
 ("Bank.fresh_const",d',["self","name","s"]),
 ("Bank.op",pP,["self","t"]),
 ("Bank.args",lG,["self","t"]),
 ("Bank.sort",lU,["self","t"]),
 ("Bank.data",lR,["self","t"]),
 ("Bank.make",lX,["self","op","args","sort","data","key","found"]),
 ("Bank.true_term",hw,["self"]),
 ("_law_next",oJ,["feed","wide","spot"]),
 ("_law_terms",l8,["bank","f","some","inner","k","t"]),
 ("_law_closed",c3,["some","inner","facts","class_of","k","pairs","has_changed","calls","j","x","y","old","new","t"]),
 ("_law_is_apart",iG,["state","facts","class_of","x","y","ends","rows","left","right"]),
 ("_law_standing",iL,["state","found","level"]),
 ("_law_clashes",jC,["state","facts","class_of","rows","left","right"]),
 ("_law_is_good",jG,["state","reasons","marks","x","y","truth","k","facts","class_of"]),
 ("_law_noted",gN,["state","house","class_of","marks","high","t","truth","some","j","k"]),
 ("_law_asked",eo,["state","house","turn","t","truth","marks","high","x","y","pairs","j","k"]),
 ("_law_taken_back",bq,["state","house","many","high","told","equal","t","pair"]),
 ("_law_done",m8,["state","house","deed","x","y","mark"]),
 ("_law_watched",g7,["feed","state","house","bank","some","lap","x","y","t"]),
 ("law",lJ,["script","feed","bank","many","some","inner","house","state","t","turn","deed","x","y","mark","facts","class_of"])]
noncomputable def T(f:String):Option Fn:=(bt.find? λp=>p.1==f).map (·.2.1)
end ai.L1
namespace ai
open PySem PySem.W PyProof.Rows PySem.SeqAt
theorem ct(a b:String)(h:KR a=KR b):a=b:=by simp only[N4,N4] at h;injection h with h;have h:=congrArg SM h;simp only at h;exact String.toList_inj.mp (List.map_inj_right (λx y e=>Char.toNat_inj.mp e)|>.mp h:a.toList=b.toList)
theorem iv(s:String):Si (KR s)=true:=by rw[N4];unfold Si;simp only[Array.all_eq_true_iff_forall_mem];intro x h;simp only[List.mem_toArray,LG] at h;obtain⟨c,_,rfl⟩:=h;have:=c.valid;simp only[UInt32.isValidChar,Nat.isValidChar] at this;have e:c.toNat=c.val.toNat:=rfl;refine Z decide_eq_true_eq (Z e ?_);lia
def jt(prog:Mi)(w:MW)(h:Heap)(k:List Int)(a:Ln):Prop:=∃xs n,h.get? a=U {cls:=.type "tuple",data:=.seq xs n}/\xs.size<=LV/\R2 (MC prog w) k xs.toList
theorem jt.key{prog:Mi}{w:MW}{k:List Int}{a:Ln}:jt prog w h k a->(Od (MC prog w)).is h k a:=λ⟨xs,n,g,_,j⟩=>⟨_,xs,n,g,rfl,rfl,j⟩
noncomputable def tK(prog:Mi)(w:MW):R3 prog w (List Int) where
 is:=jt prog w
 hash:=(Od (MC prog w)).hash
 draws:=(Od (MC prog w)).draws
 room:=(Od (MC prog w)).room
 inj:=λH y=>(Od (MC prog w)).inj H.key y.key
 keeps:=λ⟨xs,n,g,z,j⟩ o hd s=>⟨xs,n,(s.2 _ λq=>by subst q;rw[g] at o;cases o;cases hd).trans g,z,j⟩
 pyHash:=λu k h=>(Od (MC prog w)).pyHash u k.key h
 eqBool:=λu H y h=>(Od (MC prog w)).eqBool u H.key y.key h
 quiet:=λk h=>(Od (MC prog w)).quiet k.key h
theorem i4{prog:Mi}{A:NO}(h:A.units+1<Oh):(tK prog w).room A.in1:=tupleKind_room_in1 (knd:=MC prog w) h
noncomputable def jI(l:List Int):List Sx:=l.map OB
noncomputable def d2.toD:d2->Sx
 |.int i=>.int i
 |.gJ l=>.tuple (jI l)
noncomputable def bQ.toD(k:bQ):Sx:=.tuple [.str (KR k.op),.tuple (jI k.args),.int k.oU,k.data.toD]
def ue(prog:Mi)(w:MW)(h:Heap):d2->KV->Prop
 |.int i,x=>∃t,x=.int i t
 |.gJ l,x=>∃c,x=.ref c/\jt prog w h l c
def kG(prog:Mi)(w:MW)(h:Heap)(k:bQ)(a:Ln):Prop:=
 ∃xs n,h.get? a=U {cls:=.type "tuple",data:=.seq xs n}/\xs.size<=LV/\∃t b u x,xs.toList=[.str (KR k.op) t,.ref b,.int k.oU u,x]/\jt prog w h k.args b/\ue prog w h k.data x
variable {prog:Program} {w:World} {E:Value->Shared->Prop} {s:Shared} {h':Heap}
section
variable {A:Around} {h:Heap}
theorem vq(i:R2 (MC prog w) l vs):ReadsAll h vs (jI l) []:=by
 induction i with
 |nil=>exact .nil
 |@cons k v K vs H _ I=>refine cY (Px H) λt e=>?_;clear H;subst e;exact .cons (as:=[]) (bs:=[]) (.int k t) I
theorem jt.fk{l:List Int}{a:Ln}(x:jt prog w h l a):TQ h (.ref a) (.tuple (jI l)) []:=by exact cR x λxs n g _ i=>.tuple g rfl rfl (vq i)
theorem ue.fk{d:d2}(x:ue prog w h d v):TQ h v d.toD []:=by
 induction d with
 |int i=>obtain⟨t,rfl⟩:=x;exact .int i t
 |gJ l=>obtain⟨c,rfl,x⟩:=x;exact x.fk
theorem kG.fk{k:bQ}{a:Ln}(x:kG prog w h k a):TQ h (.ref a) k.toD []:=by exact cR x λxs n g _ r=>pk r λt b u y e X c=>.tuple g rfl rfl (Z e (.cons (as:=[]) (bs:=[]) (.str _ t) (.cons (as:=[]) (bs:=[]) X.fk (.cons (as:=[]) (bs:=[]) (.int _ u) (.cons (as:=[]) (bs:=[]) c.fk .nil)))))
theorem hn:∀l:List Int,Oq (jI l)=true/\N' (jI l)=0
 |[]=>⟨rfl,rfl⟩
 |i::l=>by simp[jI,Oq,P1,N',Pp];exact hn l
theorem d2.GD(d:d2):d.toD.canLay0=true/\d.toD.depth<=1:=by
 induction d with
 |int i=>exact⟨rfl,by simp[d2.toD,Pp]⟩
 |gJ l=>simp only[d2.toD,P1,Pp,(hn l).1,(hn l).2];exact⟨trivial,by lia⟩
theorem bQ.GD(k:bQ):k.toD.canLay0=true/\k.toD.depth<=2:=by have d:=k.data.GD;simp only[bQ.toD,P1,Oq,Pp,N',iv,(hn _).1,(hn _).2,d.1,Bool.and_self,true_and];lia
theorem k7:∀l m:List Int,Ot (jI l) (jI m)=decide (l=m)
 |[],[]=>rfl
 |[],_::_=>rfl
 |_::_,[]=>rfl
 |i::l,j::m=>by have:=k7 l m;simp only[jI,LC,Ot,Nl] at this⊢;refine Z this ?_;by_cases c:i=j<;>by_cases C:l=m<;>simp[c,C]
set_option tactic.hygienic true in
theorem d2.eqv(a b:d2):Nl a.toD b.toD=decide (a=b):=by
 induction a<;>induction b<;>dsimp only[d2.toD,Nl]
 ·rename_i i j;by_cases c:i=j<;>simp[c]
 ·simp
 ·simp
 ·refine Z (k7 _ _) ?_;simp
theorem Dc(a b:String):(KR a==KR b)=decide (a=b):=by
 by_cases c:a=b;·simp[c]
 ·have:¬KR a=KR b:=λe=>c (ct _ _ e)
  simp[c,this]
theorem bQ.eqv(a b:bQ):Nl a.toD b.toD=decide (a=b):=by obtain⟨o,l,i,d⟩:=a;obtain⟨c,L,I,D⟩:=b;simp only[bQ.toD,Nl,Ot,k7,d2.eqv,Dc,bQ.mk.injEq,Bool.decide_and,Bool.and_true];rfl
theorem jt.keep{l:List Int}{a:Ln}(x:jt prog w h l a)(k:∀o,h.get? a=U o->(∀es ep,o.data≠.dict es ep)->h'.get? a=U o):jt prog w h' l a:=by exact eB x λxs n g r=>⟨xs,n,k _ g (λ_ _ e=>nomatch e),r⟩
theorem kG.keep{l:bQ}{a:Ln}(x:kG prog w h l a)(k:∀a o,h.get? a=U o->(∀es ep,o.data≠.dict es ep)->h'.get? a=U o):kG prog w h' l a:=by
 refine cR x λxs n g z r=>pk r λt b u y e d X=>⟨xs,n,k _ _ g (λ_ _ e=>nomatch e),z,t,b,u,y,e,d.keep (k _),?_⟩;induction hd:l.data with
 |int i=>rw[hd] at X;exact X
 |gJ l=>rw[hd] at X;clear e;obtain⟨c,rfl,X⟩:=X;exact⟨c,rfl,X.keep (k _)⟩
theorem jt.inj{x y:List Int}{a:Ln}(H:jt prog w h x a)(b:jt prog w h y a):x=y:=(Od (MC prog w)).inj H.key b.key
theorem ue.inj{d D:d2}{u:KV}(x:ue prog w h d u)(y:ue prog w h D u):d=D:=by
 induction d with
 |int i=>
  refine cY x λt e=>?_;clear x;subst e;induction D with
  |int j=>obtain⟨t,H⟩:=y;(injection H with H;subst H);rfl
  |gJ j=>refine aD y λc C _=>?_;cases C
 |gJ l=>
  obtain⟨c,rfl,x⟩:=x;induction D with
  |int j=>refine cY y λt H=>?_;cases H
  |gJ j=>refine aD y λc C y=>?_;(injection C with C;subst C);exact Z (x.inj y) rfl
theorem EW{a b c d A B c' D:KV}(e:[a,b,c,d]=[A,B,c',D]):a=A/\b=B/\c=c'/\d=D:=
 have h:=LR e;have i:=LR h.2;have j:=LR i.2
 ⟨h.1,i.1,j.1,(LR j.2).1⟩
theorem CY{c c':KV}(e:U ({cls:=c,data:=.seq xs n}:Lg)=U {cls:=c',data:=.seq x N}):xs=x:=(Data.seq.inj (congrArg PySem.Obj.data (KP e))).1
theorem FV{x y:bQ}(h:x.op=y.op)(H:x.args=y.args)(a:x.oU=y.oU)(b:x.data=y.data):x=y:=congr (congr (congr (congrArg bQ.mk h) H) a) b
theorem kG.inj{x y:bQ}{a:Ln}(H:kG prog w h x a)(c:kG prog w h y a):x=y:=by exact cR H λxs n g _ r=>pk r λt b u v e X d=>cR c λs N g' _ R=>pk R λT B l V E f i=>fe (EW ((e.symm.trans (congrArg SM (CY (g.symm.trans g')))).trans E)) λq Q j k=>FV (ct _ _ (Value.str.inj q).1) (X.inj ((Value.ref.inj Q)▸f)) (Value.int.inj j).1 (d.inj (k▸i))
noncomputable def d2.hash(prog:Mi)(w:MW):d2->Int
 |.int i=>(MC prog w).hash i
 |.gJ l=>tupleKeyHash (MC prog w) l
noncomputable def d2.draws:d2->Nat
 |.int i=>1
 |.gJ l=>l.length+1
noncomputable def bQ.yX(prog:Mi)(w:MW)(k:bQ):List Int:=[(Mh prog w).hash (KR k.op),tupleKeyHash (MC prog w) k.args,(MC prog w).hash k.oU,k.data.hash prog w]
noncomputable def bQ.hash(prog:Mi)(w:MW)(k:bQ):Int:=reduceHash (Pq (k.yX prog w))
noncomputable def bQ.draws(k:bQ):Nat:=1+(k.args.length+1)+1+k.data.draws+1
theorem ue.pyHash{d:d2}{Q:Int->Le->Prop}(h:A.units<Oh)(x:ue prog w s.heap d v)(q:Q (d.hash prog w) {s with toks:=s.toks+d.draws}):K7 (Lh prog w) A (OG v) Q E s:=by
 induction d with
 |int i=>obtain⟨t,rfl⟩:=x;exact(MC prog w).pyHash (NF _ _ _ _) q
 |gJ l=>obtain⟨c,rfl,x⟩:=x;exact Sp h x.key q
theorem i7{R:List KV}{b:Array Int}{Q:Array Int->Le->Prop}(p:K7 (Lh prog w) A (OG x) (λn s'=>K7 (Lh prog w) A (forIn R (b.push n) λx r=>do let h<-OG x;pure Te;pure (Mk (r.push h))) Q E s') E s):
  K7 (Lh prog w) A (forIn (x::R) b λx r=>do let h<-OG x;pure Te;pure (Mk (r.push h))) Q E s:=by
 rw[Nf];refine KN (KN (Lc p (λn s' q=>?_) λ_ _ y=>y))
 first |exact KY q |exact KY (KY q) |exact KN (KY (KY q))
theorem Ca{Q:Int->Le->Prop}(h:A.units+4<Oh)(x:kG prog w s.heap k a)(q:Q (k.hash prog w) {s with toks:=s.toks+k.draws}):K7 (Lh prog w) A (OG (.ref a)) Q E s:=by refine cR x λxs n g _ r=>pk r λt b u y e X c=>pyHash_slot (T:="tuple") (⟨_,g,rfl⟩:s.TypeIs (.ref a) "tuple") PySem.F.slot_tuple_hash PySem.F.entry_tuple_hash (PySem.F.args_tuple_hash_1 _) (beq_builtin_none _) (.inr (bM (gF _ _) 0x113781311314378 rfl h)) ((KN (wpAny_tupleItemsOf g rfl ?_)):K7 _ _ (S9 (.ref a)>>=_) _ _ s);refine KN (hR Om (Z e ?_));have H:A.in1.units=A.units+1:=Rj _;refine i7 ((Mh prog w).pyHash (O9 _ _ _ _) (i7 (Sp (s:={s with toks:=s.toks+1}) (bM (io _ _ _) 0x1137813113143981371139 rfl h (K2 H)) X.key (i7 ((MC prog w).pyHash (NF _ _ _ _) (i7 (c.pyHash (s:={s with toks:=s.toks+1+(k.args.length+1)+1}) (bM (io _ _ _) 0x1137813113143981371139 rfl h (K2 H)) (KY ((KN (wpAny_mkInt (KY ⟨_,_,rfl,?_⟩))):K7 _ _ (retInt (Pq _)) _ _ _)))))))));simp only[bQ.hash,bQ.yX,bQ.draws] at q;simpa[S1] using q
theorem HM{Q:Bool->Le->Prop}(u:A.units+4<Oh)(h:kG prog w s.heap x a)(H:kG prog w s.heap y b)(q:Q (decide (x=y)) s):K7 (Lh prog w) A (PySem.eqBool (.ref a) (.ref b)) Q E s:=
 eqBoolOverData prog w A E s _ _ _ _ _ _ Q h.fk H.fk x.GD.1 y.GD.1 (by have:=y.GD.2;lia) (Z (bQ.eqv _ _) q)
theorem lS{a:Ln}{Q:Bool->Le->Prop}(g:s.heap.get? a=U {cls:=.type "tuple",data:=.seq xs N})
  (d:∀v∈xs.toList,∀Q:Bool->Le->Prop,Q true s->K7 (Lh prog w) A (PC n v) Q E s)(q:Q true s):K7 (Lh prog w) A (PC (n+1) (.ref a)) Q E s:=by
 have t:s.TypeIs (.ref a) "tuple":=⟨_,g,rfl⟩;unfold PC;refine KN (Pf t PySem.F.slot_tuple_eq.lookup ((KN (OV t isSubtype_tuple_tuple ?_)):K7 _ _ (isInstance (.ref a) (.type "tuple")>>=_) _ _ s));dsimp only[SL,L',if_false];refine KN (Mn g rfl (KN ((hR Om (wpAny_forIn_list _ (λR r s'=>r.1=KT/\s'=s/\∀v∈R,v∈xs.toList) _ ?_ ?_ _ _ ⟨rfl,rfl,λ_ h=>h⟩)):K7 _ _ (forIn xs _ _) _ _ s)))
 ·rintro v R r s' ⟨b,rfl,H⟩
  refine KN (d v (H v KX) _ ?_);simp only[SL,L',if_false];exact KY ⟨rfl,rfl,λu c=>H u (K1 _ c)⟩
 ·rintro⟨e,f⟩ s' ⟨b,rfl,_⟩
  simp only at b;subst b;exact KY q
theorem e9(h:carriedByValue v=true){Q:Bool->Le->Prop}(q:Q true s):K7 (Lh prog w) A (PC n v) Q E s:=by exact Z (eqIsQuiet_byValue n h) (KY q)
theorem jt.quiet{n:Nat}{l:List Int}{a:Ln}(x:jt prog w s.heap l a){Q:Bool->Le->Prop}(q:Q true s):K7 (Lh prog w) A (PC (n+1) (.ref a)) Q E s:=by exact cR x λxs m g _ i=>lS g (λv h Q q=>e9 (i.byValue v h) q) q
theorem Bf{Q:Bool->Le->Prop}(x:kG prog w s.heap k a)(q:Q true s):K7 (Lh prog w) A (PC 8 (.ref a)) Q E s:=by
 refine cR x λxs n g _ r=>pk r λt b u y e d X=>lS g (λv h Q q=>?_) q;rw[e] at h;simp only[KZ,MU,or_false] at h;rcases h with rfl |rfl |rfl |rfl
 ·exact e9 rfl q
 ·exact d.quiet q
 ·exact e9 rfl q
 ·induction hd:k.data with
  |int i=>rw[hd] at X;clear e;obtain⟨t,rfl⟩:=X;exact e9 rfl q
  |gJ l=>rw[hd] at X;clear e;obtain⟨c,rfl,X⟩:=X;exact X.quiet q
noncomputable def nK(prog:Mi)(w:MW):R3 prog w bQ where
 is:=kG prog w
 hash:=bQ.hash prog w
 draws:=bQ.draws
 room:=λA=>A.units+4<Oh
 inj:=λH y=>H.inj y
 keeps:=λx a hd s=>x.keep λb o g n=>(s.2 b λq=>by subst q;rw[a] at g;cases g;exact n _ _ hd).trans g
 pyHash:=λu k h=>Ca u k h
 eqBool:=λu H y h=>HM u H y h
 quiet:=λk h=>Bf k h
theorem wA(h:A.units+5<Oh):(nK prog w).room A.in1:=by refine(?_ :A.in1.units+4<Oh);simp only[Rj];omega
end
section
variable {A:Around}
theorem l'{a:Ln}{Q:Option Lg->Le->Prop}(h:Q (s.heap.get? a) s):K7 M A (Qw a) Q E s:=λb p H=>by unfold Qw;simp only[Sem.wp_loadIfAlive];exact KY (M:=M) (A:=A) (E:=E) h b p H
theorem dE{x:KV}{Q:KV->Le->Prop}(h:s.heap.IsTupleIter it t i)(T:s.heap.IsTuple t I)(X:I[i]? =U x)
  (q:∀h',h'.IsTupleIter it t (i+1)->MP it s.heap h'->Q x {s with heap:=h'}):K7 (Lh prog w) A (Lw (.ref it)) Q E s:=by
 refine gw (id h) λo H c hd=>gw T λa l _ r=>cY r λn L=>?_;unfold Lw;refine KN (MO (name:=KR "__next__") h.typeIs NB (MK NB h.typeIs Qz ((KN (Mf H hd (x:=.ref t) rfl ((Z (if_neg ((L9:¬((MG t==Mg)=true)))) ((KN (Mf H hd (x:=.int i 0) rfl (?_ :K7 _ _ (seqItems? (.ref t)>>=_) _ _ s))):K7 _ _ (PO (.ref it) 1>>=_) _ _ s)):K7 _ _ (if(MG t==Mg)=true then _ else _) _ _ s))):K7 _ _ (PO (.ref it) 0>>=_) _ _ s) (Qr _)));refine KN (Mn l L ?_);simp only[Mz,X];refine KN (Pu H hd (by simp) (KY ⟨x,rfl,KY (q _ ?_ (Mv ..))⟩));exact⟨_,Ma _ H (Obj.isFreed_of_fields (Obj.data_mapFields hd _)),(Obj.cls_mapFields ..).trans c,by
  refine Z (Obj.data_mapFields hd _) ?_;simp[Nu]⟩
theorem dF{Q:KV->Le->Prop}(b:A.handled=KT)(h:s.heap.IsTupleIter it t i)(T:s.heap.IsTuple t I)(X:I[i]? =KT)
  (c:∀h' e,LZ it s.heap h'->(∃o,h'.get? e=U o/\o.cls=.type "StopIteration")->E (.ref e) {s with heap:=h'}):K7 (Lh prog w) A (Lw (.ref it)) Q E s:=by
 refine gw (id h) λo H C hd=>?_;refine gw T λd l _ r=>cY r λn L=>?_;unfold Lw;refine KN (MO (name:=KR "__next__") h.typeIs NB
  (MK NB h.typeIs Qz ?_ (Qr _)));refine(?_ :K7 _ _ (PO (.ref it) 0>>=_) _ _ s);refine KN (Mf H hd (x:=.ref t) rfl ?_);refine(?_ :K7 _ _ (if(MG t==Mg)=true then _ else _) _ _ s);refine Z (if_neg ((L9:¬((MG t==Mg)=true)))) ?_;refine(?_ :K7 _ _ (PO (.ref it) 1>>=_) _ _ s);refine KN (Mf H hd (x:=.int i 0) rfl ?_);refine(?_ :K7 _ _ (seqItems? (.ref t)>>=_) _ _ s);refine KN (Mn l L ?_);simp only[Mz,X];refine KN (Oy (KN (Pu H hd (by simp) ?_)));refine(?_ :K7 _ _ (TD (.type "StopIteration") []>>=_) _ _ _);refine KN ?_;simp only[TD,newTuple];refine KN (M8 ?_ (by size_fits));refine KN (m:=Pv _ _) (RX (a:=Mg) (by first |rfl |(refine Z Pv ?_;rfl)) ?_);refine M8 ?_ (by size_fits);refine(?_ :K7 _ _ (handled>>=_) _ _ _);refine KN (TW ?_)
 first |exact iR ((b:A.in1.handled=KT)) rfl |refine Z b ?_
 refine KN (KY (wpAny_throw ?_));exact c _ _ (((Mv ..).extBut.push _).push _) ⟨_,La _ rfl,rfl⟩
abbrev qs(h:Heap)(z TI TO:Ln)(f F:KV):Prop:=
 h.get? z=U {cls:=.type "zip",dict:=KT,data:=.fields #[f,F,.bool false,.ref TI,.ref TO],slots:=#[]}
structure Cu(h:Heap)(z TI TO i I l1 l2:Ln)(xs ys:Array KV)(k:Nat):Prop where
 z:(qs h z TI TO .none (.bool false)/\k=0)\/∃(T:Ln) (b:Bool),qs h z TI TO (Nu T) (.bool b)/\(∃o,h.get? T=U o)/\T≠z/\T≠TO/\T≠i/\T≠I
 TI:Nv h TI (.ref i) (.ref I)
 TO:∃a b,Nv h TO a b
 h1:h.IsTupleIter i l1 k
 h2:h.IsTupleIter I l2 k
 l1:h.IsTuple l1 xs
 l2:h.IsTuple l2 ys
theorem bE{h:Heap}(x:h.IsTupleIter a t i)(e:∀o,h.get? a=U o->h'.get? a=U o):h'.IsTupleIter a t i:=let ⟨o,H,r⟩:=x;⟨o,e o H,r⟩
theorem de{h:Heap}(x:h.IsTuple a xs)(e:∀o,h.get? a=U o->h'.get? a=U o):h'.IsTuple a xs:=let ⟨o,H,r⟩:=x;⟨o,e o H,r⟩
theorem Ck{z TI TO i I L t T:Ln}{b:Bool}{xs ys:Array KV}{k:Nat}{x y:KV}{Q:KV->Le->Prop}(D:Oz z TI TO i I L t)
  (hz:qs s.heap z TI TO (Nu T) (.bool b))(V:∃o,s.heap.get? T=U o)(u:Nv s.heap TI (.ref i) (.ref I))
  (W:s.heap.IsTupleIter i L k)(X:s.heap.IsTupleIter I t k)(B:s.heap.IsTuple L xs)(C:s.heap.IsTuple t ys)(hx:xs[k]? =U x)(hy:ys[k]? =U y)
  (hQ:∀h' N,qs h' z TI TO (Nu T) (.bool true)->h'.IsTupleIter i L (k+1)->h'.IsTupleIter I t (k+1)->Nv h' N x y->s.heap.objs.size<=N->
   (∀c o,c≠z->c≠i->c≠I->s.heap.get? c=U o->h'.get? c=U o)->Q (.ref N) {s with heap:=h'}):
  K7 (Lh prog w) A (Builtin.«zip.__next__» ⟨[.ref z],[]⟩) (λcU s'=>∃v,cU=.done (.ret v)/\Q v s') E s:=by
 refine((KN (Mf hz rfl (x:=.bool false) rfl ?_)):K7 _ _ (PO (.ref z) 2>>=_) _ _ _);refine((KN (Mf hz rfl (x:=.ref TI) rfl ?_)):K7 _ _ (PO (.ref z) 3>>=_) _ _ _);refine KN (Mn u rfl ((KN (Lc (Q:=λr s'=>r=false/\∃h,s'={s with heap:=h}/\qs h z TI TO (Nu T) (.bool true)/\h.objs.size=s.heap.objs.size/\∀c o,c≠z->s.heap.get? c=U o->h.get? c=U o) ?_ (λr s' p=>?_) λ_ _ y=>y)):K7 _ _ (LA (.ref z)>>=_) _ _ _))
 ·unfold LA
  refine KN (Mf hz rfl (x:=Nu T) rfl ((KN (l' ?_)):K7 _ _ (Qw (T9 T)>>=_) _ _ s));obtain⟨o,ho⟩:=V;refine Z (Mz _) (Z ho ?_);dsimp only[Q4,L',if_false];refine KN (Mf hz rfl (x:=.bool b) rfl ?_);induction b with
  |true=>exact KY ⟨rfl,_,rfl,hz,rfl,λ_ _ _ e=>e⟩
  |false=>exact KN (MJ hz (by simp) λh H a=>KY ⟨rfl,h,rfl,H,a.1,λc o hc e=>a.extBut _ _ hc e⟩)
 refine ay p λj R=>ll R λh l H g K=>?_;subst j;clear p R;subst l;dsimp only[L',if_false];have J:i≠z:=D.i1z;have M:I≠z:=D.i2z;refine KN (hR Om ?_);simp only[Nf,O6];refine KN (KN (LX (?_ :K7 _ _ (Lw (.ref i)>>=_) _ _ _)));refine KN (dE (bE W λo e=>K _ o J e) (de B λo e=>K _ o D.l1z e) hx λm n d=>KY (KY ?_));have f:∀c o,c≠z->c≠i->s.heap.get? c=U o->m.get? c=U o:=λc o F G e=>d.extBut _ _ G (K c o F e);refine KN (KN (LX (?_ :K7 _ _ (Lw (.ref I)>>=_) _ _ _)));refine KN (dE (bE X λo e=>f _ o M D.i12.symm e) (de C λo e=>f _ o D.l2z D.l2i1 e) hy λP q S=>KY (KY (KY (KN (QN (hsz:=by refine(?_ :2<=LV);refine Z N2 ?_;decide) (KY ⟨_,rfl,hQ _ _ (K5 _ (S.extBut _ _ M.symm (d.extBut _ _ J.symm H))) ?_ ?_ (La _ rfl) ?_ λc o F G c3 e=>K5 _ (S.extBut _ _ c3 (f c o F G e))⟩))))));·exact bE n λo e=>K5 _ (S.extBut _ _ D.i12 e)
 ·exact bE q λo e=>K5 _ e
 ·simp only[S.1,d.1,g];exact K9 _
theorem D'{z TI TO i I L n T:Ln}{b:Bool}{xs ys:Array KV}{k:Nat}{Q:Fin->Le->Prop}(F:A.handled=KT)(D:Oz z TI TO i I L n)
  (hz:qs s.heap z TI TO (Nu T) (.bool b))(P:∃o,s.heap.get? T=U o)(q:Nv s.heap TI (.ref i) (.ref I))
  (G:s.heap.IsTupleIter i L k)(R:s.heap.IsTupleIter I n k)(l:s.heap.IsTuple L xs)(t:s.heap.IsTuple n ys)(f:xs[k]? =KT\/ys[k]? =KT)
  (J:∀h' e,(∀c o,c≠z->c≠TO->c≠i->c≠I->s.heap.get? c=U o->h'.get? c=U o)->(∃o,h'.get? e=U o/\o.cls=.type "StopIteration")->E (.ref e) {s with heap:=h'}):
  K7 (Lh prog w) A (Builtin.«zip.__next__» ⟨[.ref z],[]⟩) Q E s:=by
 refine((KN (Mf hz rfl (x:=.bool false) rfl ?_)):K7 _ _ (PO (.ref z) 2>>=_) _ _ _);refine((KN (Mf hz rfl (x:=.ref TI) rfl ?_)):K7 _ _ (PO (.ref z) 3>>=_) _ _ _);refine KN (Mn q rfl ((KN (Lc (Q:=λr s'=>r=false/\∃H,s'={s with heap:=H}/\∀c o,c≠z->s.heap.get? c=U o->H.get? c=U o) ?_ (λr s' p=>?_) λ_ _ y=>y)):K7 _ _ (LA (.ref z)>>=_) _ _ _))
 ·unfold LA
  refine KN (Mf hz rfl (x:=Nu T) rfl ((KN (l' ?_)):K7 _ _ (Qw (T9 T)>>=_) _ _ s));obtain⟨o,V⟩:=P;refine Z (Mz _) (Z V ?_);dsimp only[Q4,L',if_false];refine KN (Mf hz rfl (x:=.bool b) rfl ?_);induction b with
  |true=>exact KY ⟨rfl,_,rfl,λ_ _ _ e=>e⟩
  |false=>exact KN (MJ hz (by simp) λH u S=>KY ⟨rfl,H,rfl,λc o W e=>S.extBut _ _ W e⟩)
 obtain⟨rfl,H,rfl,K⟩:=p;dsimp only[L',if_false];have M:i≠z:=D.i1z;refine KN (hR Om ?_);simp only[Nf,O6];refine KN (KN (LX (?_ :K7 _ _ (Lw (.ref i)>>=_) _ _ _)));induction X:xs[k]?with
 |none=>exact KN (dF F (bE G λo e=>K _ o M e) (de l λo e=>K _ o D.l1z e) X λd e a v=>J d e (λc o C _ B _ x=>a _ _ B (K _ _ C x)) v)
 |some x=>
  have hy:ys[k]? =KT:=by refine K4 f (λh=>?_) λh=>?_;replace h:=X▸h;exact(nomatch h);exact h
  refine KN (dE (bE G λo e=>K _ o M e) (de l λo e=>K _ o D.l1z e) X λd N g=>KY (KY ?_));have a:∀c o,c≠z->c≠i->s.heap.get? c=U o->d.get? c=U o:=λc o C c2 e=>g.extBut _ _ c2 (K c o C e);refine KN (KN (LX (?_ :K7 _ _ (Lw (.ref I)>>=_) _ _ _)));exact KN (dF F (bE R λo e=>a _ o (D.i2z:I≠z) D.i12.symm e) (de t λo e=>a _ o D.l2z D.l2i1 e) hy λj e m v=>J j e (λc o C _ B c4 x=>m _ _ c4 (a _ _ C B x)) v)
theorem Ak{TI TO P R:Ln}{x y:KV}{Q:KV->Le->Prop}(D:Oz z TI TO I C P R)
  (hz:qs s.heap z TI TO .none (.bool false))(an:Nv s.heap TI (.ref I) (.ref C))(ap:Nv s.heap TO a b)
  (h1:s.heap.IsTupleIter I P k)(h2:s.heap.IsTupleIter C R k)(as:s.heap.IsTuple P xs)(a1:s.heap.IsTuple R ys)(hx:xs[k]? =U x)(hy:ys[k]? =U y)
  (hQ:∀(h':Heap) (N:Ln),qs h' z TI TO (Nu N) (.bool false)->Nv h' TO x y->h'.IsTupleIter I P (k+1)->h'.IsTupleIter C R (k+1)->Nv h' N x y->s.heap.objs.size<=N->
   (∀c o,c≠z->c≠TO->c≠I->c≠C->s.heap.get? c=U o->h'.get? c=U o)->Q (.ref N) {s with heap:=h'}):
  K7 (Lh prog w) A (Builtin.«zip.__next__» ⟨[.ref z],[]⟩) (λcU s'=>∃v,cU=.done (.ret v)/\Q v s') E s:=by
 refine((KN (Mf hz rfl (x:=.bool false) rfl ?_)):K7 _ _ (PO (.ref z) 2>>=_) _ _ _);refine((KN (Mf hz rfl (x:=.ref TI) rfl ?_)):K7 _ _ (PO (.ref z) 3>>=_) _ _ _);refine KN (Mn an rfl ((KN ?_):K7 _ _ (LA (.ref z)>>=_) _ _ _));unfold LA;refine KN (Mf hz rfl (x:=.none) rfl (KY ?_));dsimp only[if_true];refine KN (Oy (KN (Mf hz rfl (x:=.ref TO) rfl (KN (MJ hz (by simp) λG Z p=>?_)))));replace Z:qs G z TI TO .ellipsis (.bool false):=Z;refine KN ?_;simp only[OD,Sa,Nf,O6];have e1:I≠z:=D.i1z;have e2:C≠z:=D.i2z;have K:∀c o,c≠z->s.heap.get? c=U o->G.get? c=U o:=λc o hc e=>p.extBut _ _ hc e;refine KN (KN (ON (?_ :K7 _ _ (Lw (.ref I)>>=_) _ _ _)));refine KN (dE (bE h1 λo e=>K _ o e1 e) (de as λo e=>K _ o D.l1z e) hx λT V j=>KY ?_);have l:Nv T TO a b:=j.extBut _ _ D.TOi1 (K _ _ D.TOz ap);refine KN (Mn l rfl (KN (Pt l λJ d m=>?_)));replace d:Nv J TO x b:=d;refine KN (OH (KY ?_));have q:∀c o,c≠z->c≠TO->c≠I->s.heap.get? c=U o->J.get? c=U o:=λc o F M W e=>m.extBut _ _ M (j.extBut _ _ W (K c o F e));refine KN (KN (ON (?_ :K7 _ _ (Lw (.ref C)>>=_) _ _ _)));refine KN (dE (bE h2 λo e=>q _ o e2 D.TOi2.symm D.i12.symm e) (de a1 λo e=>q _ o D.l2z D.l2TO D.l2i1 e) hy λX aa S=>KY ?_);have n:Nv X TO x b:=S.extBut _ _ D.TOi2 d;refine KN (Mn n rfl (KN (Pt n λh H f=>?_)));replace H:Nv h TO x y:=H;refine KN (OH (KY (KY (KN (Mn H rfl (KN (QN ?_)))))));have r:qs h z TI TO .ellipsis (.bool false):=f.extBut _ _ D.TOz.symm (S.extBut _ _ D.i2z.symm (m.extBut _ _ D.TOz.symm (j.extBut _ _ D.i1z.symm Z)));have ac:∀c o,c≠z->c≠TO->c≠I->c≠C->s.heap.get? c=U o->h.get? c=U o:=λc o F M W c4 e=>f.extBut _ _ M (S.extBut _ _ c4 (q c o F M W e));have af:z<h.objs.size:=Lv r;refine((KN ?_):K7 _ _ (On (.ref z) (.ref h.objs.size)>>=_) _ _ _);unfold On;have L:qs (h.push {cls:=.type "tuple",data:=.seq #[x,y]}) z TI TO .ellipsis (.bool false):=K5 _ r;refine KN (MJ L (by simp) λag g t=>?_);replace g:qs ag z TI TO (Nu h.objs.size) (.bool false):=g;refine MJ g (by simp) λu i B=>?_;replace i:qs u z TI TO (Nu h.objs.size) (.bool false):=i;have up:∀c o,c≠z->h.get? c=U o->u.get? c=U o:=λc o F e=>B.extBut _ _ F (t.extBut _ _ F (K5 _ e));exact KY ⟨_,rfl,hQ u h.objs.size i (up _ _ D.TOz H) (bE (bE V λo e=>f.extBut _ _ D.TOi1.symm (S.extBut _ _ D.i12 (m.extBut _ _ D.TOi1.symm e)):h.IsTupleIter I P (k+1)) λo e=>up _ o e1 e) (bE (bE aa λo e=>f.extBut _ _ D.TOi2.symm e:h.IsTupleIter C R (k+1)) λo e=>up _ o e2 e) (B.extBut _ _ (N0 af) (t.extBut _ _ (N0 af) (La _ rfl))) (K2 (by simp only[f.1,S.1,m.1,j.1,p.1]:h.objs.size=s.heap.objs.size).symm) λc o F M W c4 e=>up c o F (ac c o F M W c4 e)⟩
theorem rZ{TI TO V W:Ln}{Q:Fin->Le->Prop}(hh:A.handled=KT)(D:Oz z TI TO I B V W)
  (hz:qs s.heap z TI TO .none (.bool false))(X:Nv s.heap TI (.ref I) (.ref B))(aa:Nv s.heap TO a b)
  (h1:s.heap.IsTupleIter I V k)(h2:s.heap.IsTupleIter B W k)(L:s.heap.IsTuple V xs)(ac:s.heap.IsTuple W ys)(G:xs[k]? =KT\/ys[k]? =KT)
  (P:∀h' e,(∀c o,c≠z->c≠TO->c≠I->c≠B->s.heap.get? c=U o->h'.get? c=U o)->(∃o,h'.get? e=U o/\o.cls=.type "StopIteration")->E (.ref e) {s with heap:=h'}):
  K7 (Lh prog w) A (Builtin.«zip.__next__» ⟨[.ref z],[]⟩) Q E s:=by
 refine((KN (Mf hz rfl (x:=.bool false) rfl ?_)):K7 _ _ (PO (.ref z) 2>>=_) _ _ _);refine((KN (Mf hz rfl (x:=.ref TI) rfl ?_)):K7 _ _ (PO (.ref z) 3>>=_) _ _ _);refine KN (Mn X rfl ((KN ?_):K7 _ _ (LA (.ref z)>>=_) _ _ _));unfold LA;refine KN (Mf hz rfl (x:=.none) rfl (KY ?_));dsimp only[if_true];refine KN (Oy (KN (Mf hz rfl (x:=.ref TO) rfl (KN (MJ hz (by simp) λr H S=>?_)))));replace H:qs r z TI TO .ellipsis (.bool false):=H;refine KN ?_;simp only[OD,Sa,Nf,O6];have F:I≠z:=D.i1z;have R:B≠z:=D.i2z;have K:∀c o,c≠z->s.heap.get? c=U o->r.get? c=U o:=λc o hc e=>S.extBut _ _ hc e;refine KN (KN (ON (?_ :K7 _ _ (Lw (.ref I)>>=_) _ _ _)));induction hx:xs[k]?with
 |none=>
  refine KN (dF hh (bE h1 λo e=>K _ o F e) (de L λo e=>K _ o D.l1z e) hx λi e t he=>aD he λoe d j=>?_);have Z:qs i z TI TO .ellipsis (.bool false):=t _ _ F.symm H;have y:e≠z:=λx=>by clear K R F H S P hz D;subst x;rw[Z] at d;(replace d:=KP d;subst d);simp at j
  refine MJ Z (by simp) λl _ m=>P l e (λc o C _ J _ x=>m.extBut _ _ C (t _ _ J (K _ _ C x))) ⟨oe,m.extBut _ _ y d,j⟩
 |some x=>
  have hy:ys[k]? =KT:=by refine K4 G (λh=>?_) λh=>?_;rw[hx] at h;exact(nomatch h);exact h
  refine KN (dE (bE h1 λo e=>K _ o F e) (de L λo e=>K _ o D.l1z e) hx λi af n=>KY ?_);have f:Nv i TO a b:=n.extBut _ _ D.TOi1 (K _ _ D.TOz aa);refine KN (Mn f rfl (KN (Pt f λl T u=>KN (OH (KY ?_)))));have g:∀c o,c≠z->c≠TO->c≠I->s.heap.get? c=U o->l.get? c=U o:=λc o C c2 J e=>u.extBut _ _ c2 (n.extBut _ _ J (K c o C e));refine KN (KN (ON ((KN (dF hh (bE h2 λo e=>g _ o R D.TOi2.symm D.i12.symm e) (de ac λo e=>g _ o D.l2z D.l2TO D.l2i1 e) hy λM e v he=>aD he λoe d j=>?_)):K7 _ _ (Lw (.ref B)>>=_) _ _ _)));have p:qs M z TI TO .ellipsis (.bool false):=v _ _ R.symm (u.extBut _ _ D.TOz.symm (n.extBut _ _ F.symm H));have y:e≠z:=λx=>by clear g K R F H S P hz D;subst x;rw[p] at d;(replace d:=KP d;subst d);simp at j
  refine MJ p (by simp) λN _ q=>P N e (λc o C c2 J c4 x=>q.extBut _ _ C (v _ _ c4 (g _ _ C c2 J x))) ⟨oe,q.extBut _ _ y d,j⟩
theorem wO{TI TO:Ln}{Q:Option KV->Le->Prop}(V:A.handled=KT)(D:Oz z TI TO I j G J)(Z:Cu s.heap z TI TO I j G J xs ys k)
  (d:(xs[k]? =KT\/ys[k]? =KT)->∀h',(∀c o,c≠z->c≠TO->c≠I->c≠j->s.heap.get? c=U o->h'.get? c=U o)->Q KT {s with heap:=h'})
  (f:∀x y,xs[k]? =U x->ys[k]? =U y->∀h' N,Cu h' z TI TO I j G J xs ys (k+1)->Nv h' N x y->s.heap.objs.size<=N->
   (∀c o,c≠z->c≠TO->c≠I->c≠j->s.heap.get? c=U o->h'.get? c=U o)->Q (U (.ref N)) {s with heap:=h'}):
  K7 (Lh prog w) A (Oo (.ref z)) Q E s:=by
 obtain⟨hz,i,⟨a,b,g⟩,q,t,l,L⟩:=Z;have v:s.TypeIs (.ref z) "zip":=by refine K4 hz (λr=>ay r λhz _=>?_) λR=>eB R λT b hz _=>?_ <;>exact⟨_,hz,rfl⟩
 have lt:∀{c:Ln} {o:Lg} {N:Ln},s.heap.get? c=U o->s.heap.objs.size<=N->N≠c:=λe n=>N0 (Li (Lv e) n);have zz:∃o,s.heap.get? z=U o:=by refine K4 hz (λm=>ay m λhz _=>?_) λp=>eB p λT b hz _=>?_ <;>exact⟨_,hz⟩
 obtain⟨oz,gz⟩:=zz;have K:∃o,s.heap.get? I=U o:=let ⟨o,e,_⟩:=q;⟨o,e⟩;have M:∃o,s.heap.get? j=U o:=let ⟨o,e,_⟩:=t;⟨o,e⟩;obtain⟨o1,g1⟩:=K;obtain⟨o2,g2⟩:=M;unfold Oo;by_cases h:xs[k]? =KT\/ys[k]? =KT
 ·have cU:∀h' (e:Ln),(∀c o,c≠z->c≠TO->c≠I->c≠j->s.heap.get? c=U o->h'.get? c=U o)->(∃o,h'.get? e=U o/\o.cls=.type "StopIteration")->
    K7 (Lh prog w) A (do if<-isInstance (.ref e) (.type "StopIteration") then pure KT else throw (.ref e)) Q E {s with heap:=h'}:=λh' e H u=>by
   exact aD u λo ho hc=>KN (OV (T:="StopIteration") (b:=true) ⟨o,ho,hc⟩ TG (KY (d h h' H)))
  refine KN (PN (MO (name:=KR "__next__") v O1 (MK O1 v SA ?_ (Sj _))));clear f d;rcases hz with⟨hz,rfl⟩ |⟨T,b,hz,P,_⟩
  ·exact rZ V D hz i g q t l L h λh' e H u=>cU h' e H u
  ·exact D' V D hz P i q t l L h λh' e H u=>cU h' e H u
 ·obtain⟨x,X⟩:∃x,xs[k]? =U x:=by
   induction e:xs[k]?with
   |none=>exact absurd (.inl e) h
   |some x=>exact⟨x,rfl⟩
  obtain⟨y,B⟩:∃y,ys[k]? =U y:=by
   induction e:ys[k]?with
   |none=>exact absurd (.inr e) h
   |some x=>exact⟨x,rfl⟩
  refine KN (PN (MO (name:=KR "__next__") v O1 (MK O1 v SA ?_ (Sj _))));clear h d;rcases hz with⟨hz,rfl⟩ |⟨T,b,hz,⟨oT,W⟩,t1,t2,t3,t4⟩
  ·exact Ak D hz i g q t l L X B λh' N a1 a2 a3 S C n H=>KY (f x y X B h' N
    ⟨.inr ⟨N,false,a1,⟨_,C⟩,lt gz n,lt g n,lt g1 n,lt g2 n⟩,H _ _ D.TIz D.TITO D.TIi1 D.TIi2 i,⟨_,_,a2⟩,a3,S,de l λo e=>H _ o D.l1z D.l1TO D.l1i1 D.l1i2 e,de L λo e=>H _ o D.l2z D.l2TO D.l2i1 D.l2i2 e⟩ C n H)
  ·exact Ck D hz ⟨oT,W⟩ i q t l L X B λh' N a1 a3 S C n H=>KY (f x y X B h' N
    ⟨.inr ⟨T,true,a1,⟨_,H _ _ t1 t3 t4 W⟩,t1,t2,t3,t4⟩,H _ _ D.TIz D.TIi1 D.TIi2 i,⟨_,_,H _ _ D.TOz D.TOi1 D.TOi2 g⟩,a3,S,de l λo e=>H _ o D.l1z D.l1i1 D.l1i2 e,de L λo e=>H _ o D.l2z D.l2i1 D.l2i2 e⟩ C n λc o c1 _ c3 c4 e=>H c o c1 c3 c4 e)
end
theorem uA:typeLookup (.type "zip") "__len__"=pure KT:=by(refine Z (Tn _ _) (Z RJ ?_));kernel_rfl
theorem sX:typeLookup (.type "zip") "__length_hint__"=pure KT:=by(refine Z (Tn _ _) (Z RJ ?_));kernel_rfl
noncomputable abbrev Ir(h:Heap)(l:Ln):Heap:=h.push {cls:=.type "tuple_iterator",data:=.fields #[.ref l,.int 0 0]}
noncomputable abbrev Ij(h:Heap)(l L:Ln):Heap:=(Ir h l).push {cls:=.type "tuple_iterator",data:=.fields #[.ref L,.int 0 0]}
noncomputable abbrev Io(h:Heap)(l L:Ln):Heap:=(Ij h l L).push {cls:=.type "tuple",data:=.seq #[.ref h.objs.size,.ref (Ir h l).objs.size]}
noncomputable abbrev Il(h:Heap)(l L:Ln):Heap:=(Io h l L).push {cls:=.type "tuple",data:=.seq #[.none,.none]}
noncomputable abbrev EY(h:Heap)(l L:Ln):Heap:=(Il h l L).push {cls:=.type "zip",data:=.fields #[.none,.bool false,.bool false,.ref (Ij h l L).objs.size,.ref (Io h l L).objs.size]}
theorem lg(l L:Ln)(xs ys:Array KV):
  Meets (Builtin.«zip.__new__» ⟨[.type "zip",.ref l,.ref L],[]⟩) (λ_ R s=>s.heap.IsTuple l xs/\s.heap.IsTuple L ys/\
   R (.ok (.ret (.ref (Il s.heap l L).objs.size))) {s with heap:=EY s.heap l L}):=
 .of_wp λprog w A R s h=>by
  obtain⟨p,g,d,tk,os⟩:=s;refine cH h λH a h=>?_;have B:=sub_zip;have b:SV (Sw ⟨p.push {cls:=.type "tuple_iterator",data:=.fields #[.ref l,.int 0 0]},g,d,tk,os⟩) L ys:=Ts a _
  wp_walk using PT (H:SV (Sw ⟨p,g,d,tk,os⟩) l xs),PT b
  exact⟨_,rfl,h⟩
section
variable {A:Around}
theorem xU{n l L:Ln}(h:l<n)(H:L<n):Oz (n+4) (n+2) (n+3) n (n+1) l L:=Tx h H
theorem mm{Q:KV->Le->Prop}(H:s.heap.IsTuple l xs)(b:s.heap.IsTuple L ys)
  (h:∀h' z TI TO i I,Oz z TI TO i I l L->Cu h' z TI TO i I l L xs ys 0->qs h' z TI TO .none (.bool false)->s.heap.objs.size<=z->s.heap.objs.size<=TO->s.heap.objs.size<=i->s.heap.objs.size<=I->
   (∀c o,s.heap.get? c=U o->h'.get? c=U o)->Q (.ref z) {s with heap:=h'}):
  K7 (Lh prog w) A (call (.type "zip") [.ref l,.ref L]) Q E s:=by
 refine callType_new F.called_zip rfl (F.typeCall_zip_2 _ _) (F.newCall_zip_2 _ _) (λobj=>F.args_object_init_3 obj _ _) F.entry_zip_new
  (lg l L xs ys) (Er H b (?_));have d:(Ir s.heap l).objs.size=s.heap.objs.size+1:=MX ..;have f:(Ij s.heap l L).objs.size=s.heap.objs.size+2:=by(rw[MX];exact Z d rfl)
 have j:(Io s.heap l L).objs.size=s.heap.objs.size+3:=by(rw[MX];exact Z f rfl)
 have m:(Il s.heap l L).objs.size=s.heap.objs.size+4:=by(rw[MX];exact Z j rfl)
 have g:(EY s.heap l L).get? (Il s.heap l L).objs.size=U _:=La _ rfl;have G:(EY s.heap l L).get? (Io s.heap l L).objs.size=U _:=K5 _ (La _ rfl);have n:(EY s.heap l L).get? (Ij s.heap l L).objs.size=U _:=K5 _ (K5 _ (La _ rfl));have p:(EY s.heap l L).get? (Ir s.heap l).objs.size=U _:=K5 _ (K5 _ (K5 _ (La _ rfl)));refine(?_ :_/\_);rw[f,j,m] at g;rw[d,f] at n;rw[j] at G;rw[d] at p;refine Z m ?_;have k:∀c o,s.heap.get? c=U o->(EY s.heap l L).get? c=U o:=λc o x=>
  K5 _ (K5 _ (K5 _ (K5 _ (K5 _ x))));have lt:∀{a:Ln} {xs:Array KV},s.heap.IsTuple a xs->a<s.heap.objs.size:=λ⟨o,e,_⟩=>Lv e;exact⟨⟨_,g,rfl⟩,h _ _ _ _ _ _ (xU (lt H) (lt b)) ⟨.inl ⟨g,rfl⟩,n,⟨_,_,G⟩,⟨_,(K5 _ (K5 _ (K5 _ (K5 _ (La _ rfl)))):(EY s.heap l L).get? s.heap.objs.size=U _),rfl,rfl⟩,⟨_,p,rfl,rfl⟩,de H λo e=>k _ o e,de b λo e=>k _ o e⟩ g
  (Lr _ _) (Lr _ _) (K9 _) (Lr _ _) k⟩
inductive cC(h:Heap)(N₀:Nat):List KV->List (KV×KV)->Prop
 |nil:cC h N₀ [] []
 |cons {N:Ln} {x y:KV} {vs:List KV} {ps:List (KV×KV)}:N₀<=N->Nv h N x y->cC h N₀ vs ps->cC h N₀ (.ref N::vs) ((x,y)::ps)
theorem cC.push{vs:List KV}(p:cC h N₀ vs ps){N:Ln}{x y:KV}(H:N₀<=N)(n:Nv h N x y):cC h N₀ (vs++[.ref N]) (ps++[(x,y)]):=by
 induction p with
 |nil=>exact .cons H n .nil
 |cons a b _ i=>exact .cons a b i
theorem cC.keep{vs:List KV}(p:cC h N₀ vs ps)(k:∀a o,N₀<=a->h.get? a=U o->h'.get? a=U o):cC h' N₀ vs ps:=by
 induction p with
 |nil=>exact .nil
 |cons a b _ i=>exact .cons a (k _ _ a b) i
theorem cC.length{vs:List KV}(p:cC h N₀ vs ps):vs.length=ps.length:=by
 induction p with
 |nil=>rfl
 |cons _ _ _ i=>simp[i]
theorem cC.Dk{n:Nat}{vs:List KV}(p:cC h N₀ vs ps)(l:n<=N₀):cC h n vs ps:=by
 induction p with
 |nil=>exact .nil
 |cons a b _ i=>exact .cons (KQ l a) b i
theorem Cu.keep{z TI TO i l L S:Ln}{k:Nat}(Z:Cu h z TI TO i I l L xs ys k)(s:S≠z/\S≠TI/\S≠TO/\S≠i/\S≠I/\S≠l/\S≠L)(y:∃o vs n,h.get? S=U o/\o.data=.seq vs n/\o.cls=.type "list")
  (N:∀T:Ln,(∃o,h.get? T=U o)->∃o,h'.get? T=U o)(e:∀a o,a≠S->h.get? a=U o->h'.get? a=U o):Cu h' z TI TO i I l L xs ys k:=by
 obtain⟨hz,H,⟨a,b,d⟩,j,m,f,g⟩:=Z;exact uV s λE p q t u v w=>⟨K4 hz (λR=>ay R λhz K=>.inl ⟨e _ _ E.symm hz,K⟩) λc=>cR c λT b hz x r=>.inr ⟨T,b,e _ _ E.symm hz,N T x,r⟩,e _ _ p.symm H,⟨a,b,e _ _ q.symm d⟩,bE j λo=>e _ o t.symm,bE m λo=>e _ o u.symm,de f λo=>e _ o v.symm,de g λo=>e _ o w.symm⟩
theorem kp{a b:Type}{xs:List a}{ys:List b}{k:Nat}(h:xs[k]? =KT\/ys[k]? =KT):(xs.zip ys).take k=xs.zip ys:=by refine NU (Z Sc (K4 h (λh=>?_) λh=>?_))<;>simp only[Qv] at h<;>lia
theorem pr{a b:Type}{xs:List a}{ys:List b}{k:Nat}{x:a}{y:b}(h:xs[k]? =U x)(H:ys[k]? =U y):(xs.zip ys).take (k+1)=(xs.zip ys).take k++[(x,y)]:=by
 have:(xs.zip ys)[k]? =U (x,y):=by simp only[Qu];exact⟨h,H⟩
 simp only[List.take_add_one,this];rfl
theorem eG{N₀:Nat}{a b:Ln}(h:b<N₀)(H:N₀<=a):a≠b:=λe=>by subst e;exact absurd h (Pz.mpr H)
theorem CE{R:Result->Le->Prop}{TI TO P S:Ln}{xs ys:Array KV}{res:KV}{N₀:Nat}(hh:A.handled=KT)(D:Oz z TI TO I m M P)(Q:S≠z/\S≠TI/\S≠TO/\S≠I/\S≠m/\S≠M/\S≠P)(hz:xs.size<=LV)
  (Dk:z<N₀/\TO<N₀/\I<N₀/\m<N₀/\S<N₀)(hR:∀h' vs c,h'.get? S=U {cls:=.type "list",dict:=KT,data:=.seq vs c,slots:=#[]}->cC h' N₀ vs.toList (xs.toList.zip ys.toList)->
   (∀a o,a≠z->a≠TO->a≠I->a≠m->a≠S->s.heap.get? a=U o->h'.get? a=U o)->R (.ok (.ret res)) {s with heap:=h'}):
  ∀(n k:Nat) (h:Heap) (vs:Array KV) (c:Nat),xs.size-k=n->k<=xs.size->N₀<=h.objs.size->Cu h z TI TO I m M P xs ys k->h.get? S=U {cls:=.type "list",dict:=KT,data:=.seq vs c,slots:=#[]}->
   cC h N₀ vs.toList ((xs.toList.zip ys.toList).take k)->(∀a o,a≠z->a≠TO->a≠I->a≠m->a≠S->s.heap.get? a=U o->h.get? a=U o)->
   O' (Lh prog w) A (.builtin "list.extend.loop" ⟨[.ref S,.ref z,res],[]⟩) R {s with heap:=h}:=by
 intro n;induction n with
 |zero=>
  intro k h vs c hn V hN ag g p K;refine Ph RM (Z (N7 M1 _) (?_ :K7 _ A.in1 (Oo (.ref z)>>=_) _ _ _));have W:xs[k]? =KT:=by rw[Ol];lia
  refine KN (wO (s:={s with heap:=h}) hh D ag (λf h' H=>uV Q λE e2 r t u e6 e7=>oW Dk λB G J b4 b5=>?_) (λx y X=>by replace X:=W▸X;exact(nomatch X)));have d:xs.toList[k]? =KT\/ys.toList[k]? =KT:=by simpa using f
  simp only[kp d] at p;exact KY (hR h' vs c (H _ _ E r t u g) (p.keep λa o b e=>H a o (eG B b) (eG G b) (eG J b) (eG b4 b) e) λa o C i j l q e=>H a o C i j l (K a o C i j l q e))
 |succ n ih=>
  intro k h vs c hn V hN ag g p K;refine Ph RM (Z (N7 M1 _) (?_ :K7 _ A.in1 (Oo (.ref z)>>=_) _ _ _));have aa:=Q;refine uV Q λE e2 r t u e6 e7=>oW Dk λB G J b4 b5=>KN (wO (s:={s with heap:=h}) hh D ag (λf h' H=>?_) (λx y W hy h' N Z' hp ac H=>?_))
  ·have d:xs.toList[k]? =KT\/ys.toList[k]? =KT:=by simpa using f
   simp only[kp d] at p;exact KY (hR h' vs c (H _ _ E r t u g) (p.keep λa o b e=>H a o (eG B b) (eG G b) (eG J b) (eG b4 b) e) λa o C i j l q e=>H a o C i j l (K a o C i j l q e))
  ·have g':=H _ _ E r t u g
   refine(?_ :K7 _ A.in1 (OW S (·.push (.ref N))>>=_) _ _ _);have L:=p.length;have v:vs.size<=k:=by simp only[MH] at L;simp only[Lq] at L;lia
   have NN:N₀<=N:=KQ hN (ac:h.objs.size<=N);have up:∀a o,a≠S->h'.get? a=U o->(h'.update S (Obj.mapSeq (·.push (.ref N)))).get? a=U o:=λa o b e=>(Mm _ _ b.symm).trans e;have gS:=Ma (Obj.mapSeq (·.push (MG N))) g' rfl;refine KN (Np g' rfl (KY ⟨OP M1 _,ih (k+1) _ (vs.push (.ref N)) _ (by omega) (by omega) (Z (Nz _ _ _) (KQ NN (LJ (Lv hp)))) (Z'.keep aa ⟨_,_,_,g',rfl,rfl⟩ (λT hT=>?_) up) gS ?_ (λa o C i j l q e=>up _ _ q (H a o C i j l (K a o C i j l q e)))⟩) (bM (lN _ _ _ _) 0x78139813a9137a rfl hz V v) (((Z (P0 _) (bM (lN _ _ _ _) 0x11371138139813a9137a rfl hz V v)):(vs.push (.ref N)).size<=LV+1)))
   ·by_cases c:T=S
    ·exact Z c ⟨_,gS⟩
    ·exact cY hT λo e=>⟨o,up _ _ c e⟩
   ·have X:xs.toList[k]? =U x:=by simpa using W
    have af:ys.toList[k]? =U y:=by simpa using hy
    exact Z (pr X af) (Z PB ((p.keep λa o b e=>up _ _ (eG b5 b) (H a o (eG B b) (eG G b) (eG J b) (eG b4 b) e)).push NN (up _ _ (eG b5 NN:N≠S) hp)))
theorem yL{Q:Bool->Le->Prop}(h:s.TypeIs (.ref z) "zip")(q:Q true s):K7 (Lh prog w) A (M' (.ref z)) Q E s:=by unfold M';refine KN (Pf h uA (?_ :K7 _ A (specialOf (MG z) (KR "__length_hint__")>>=_) _ _ _));exact KN (Pf h sX (KY q))
theorem Aa{TI TO:Ln}{xs:Array KV}{Q:KV->Le->Prop}(hh:A.handled=KT)(hz:xs.size<=LV)(D:Oz z TI TO I t L J)(af:Cu s.heap z TI TO I t L J xs ys 0)(M:qs s.heap z TI TO .none (.bool false))
  (W:∀h' vs c,(∀a o,a≠z->a≠TO->a≠I->a≠t->s.heap.get? a=U o->h'.get? a=U o)->h'.get? s.heap.objs.size=U {cls:=.type "list",dict:=KT,data:=.seq vs c,slots:=#[]}->cC h' s.heap.objs.size vs.toList (xs.toList.zip ys.toList)->
   Q (.ref s.heap.objs.size) {s with heap:=h'}):K7 (Lh prog w) A (call (.type "list") [.ref z]) Q E s:=by
 refine TK (Q₁:=λobj f=>obj=.ref s.heap.objs.size/\f={s with heap:=s.heap.push {cls:=.type "list",data:=.seq #[]}}) RN (Q1 _) Q2
  (T2 _ ⟨rfl,rfl⟩) λobj f u=>?_;obtain⟨rfl,rfl⟩:=u;obtain⟨ac,v,⟨a,b,i⟩,⟨o1,X,r1⟩,⟨o2,g2,r2⟩,⟨o3,g3,r3⟩,⟨o4,g4,r4⟩⟩:=id af;have lt:∀{a:Ln} {o:Lg},s.heap.get? a=U o->s.heap.objs.size≠a:=λe=>N0 (Lv e);have n:s.heap.objs.size≠z/\s.heap.objs.size≠TI/\s.heap.objs.size≠TO/\s.heap.objs.size≠I/\s.heap.objs.size≠t/\s.heap.objs.size≠L/\s.heap.objs.size≠J:=⟨lt M,lt v,lt i,lt X,lt g2,lt g3,lt g4⟩;have G:(s.heap.push {cls:=.type "list",data:=.seq #[]}).get? s.heap.objs.size=U {cls:=.type "list",data:=.seq #[]}:=La _ rfl;refine⟨⟨_,G,rfl⟩,QR _ _,?_⟩;generalize j:s.heap.objs.size=S at n G W⊢;have kp:∀a o,s.heap.get? a=U o->(s.heap.push {cls:=.type "list",data:=.seq #[]}).get? a=U o:=λa o e=>K5 _ e;have P:(s.heap.push {cls:=.type "list",data:=.seq #[]}).objs.size=S+1:=by simp only[MX,j]
 refine((KN ?_):K7 _ _ (do let vk<-NE (.ref S);PL (.ref S) (λ_=>#[]);letGo vk.toList.reverse;L4 (.ref S) (.ref z) .none) _ _ _);unfold NE;refine KN (Mn G rfl (KY ((KN (Np G rfl ?_)):K7 _ _ (OW S (λ_=>#[])>>=λ_=>letGo (#[]:Array KV).toList.reverse>>=λ_=>L4 (.ref S) (.ref z) .none) _ _ _)));have h:=Ma (Obj.mapSeq (λ_=>(#[]:Array KV))) G rfl;generalize hH:(s.heap.push {cls:=.type "list",data:=.seq #[]}).update S (Obj.mapSeq (λ_=>(#[]:Array KV)))=N at h⊢;have k2:∀a o,a≠S->s.heap.get? a=U o->N.get? a=U o:=λa o x e=>hR hH ((Mm _ _ x.symm).trans (kp a o e));refine KN (OH ?_);have g:qs N z TI TO .none (.bool false):=k2 _ _ n.1.symm M;unfold L4;refine KN (O7 (T:="zip") ⟨_,g,rfl⟩ ?_);have h1:Nn (.ref S) (.ref z)=false:=by simp[Nn,n.1]
 simp only[h1,(by decide:(M3 "zip"==M3 "list")=false),(by decide:(M3 "zip"==M3 "tuple")=false),SK,L',if_false];refine KN (wpAny_pyIter_zip g (KN (LX (yL ⟨_,g,rfl⟩ (Pg (λ_=>KN (Oy (KN ((KN (Np h rfl ?_)):K7 _ _ (OW S (·.push .none)>>=λ_=>OW S (·.pop)) _ _ _)))) (λaa=>absurd (by rfl) aa))))));have H:=Ma (Obj.mapSeq (·.push Mg)) h rfl;refine Np (hz:=by seq_fits) H rfl ?_;have d:=Ma (Obj.mapSeq (·.pop)) H rfl;generalize m:(N.update S (Obj.mapSeq (·.push Mg))).update S (Obj.mapSeq (·.pop))=V at d⊢;have k:∀a o,a≠S->s.heap.get? a=U o->V.get? a=U o:=λa o x e=>hR m ((Mm _ _ x.symm).trans ((Mm _ _ x.symm).trans (k2 a o x e)));have y:V.objs.size=S+1:=by simp only[<-m,Nz,Nz,(by simp only[<-hH,Nz,P]:N.objs.size=S+1)]
 have Z3:Cu V z TI TO I t L J xs ys 0:=by exact uV n λq1 q2 q3 q4 q5 q6 q7=>⟨.inl ⟨k _ _ q1.symm M,rfl⟩,k _ _ q2.symm v,⟨a,b,k _ _ q3.symm i⟩,⟨o1,k _ _ q4.symm X,r1⟩,⟨o2,k _ _ q5.symm g2,r2⟩,⟨o3,k _ _ q6.symm g3,r3⟩,⟨o4,k _ _ q7.symm g4,r4⟩⟩
 have l:∀{a:Ln} {o:Lg},s.heap.get? a=U o->a<S+1:=λe=>by have:=Lv e;rw[j] at this;exact No this
 exact KY ⟨OP M1 _,CE (prog:=prog) (w:=w) (A:=A.in1) (res:=.none) (R:=wants (λr B=>r=.none/\Q (.ref S) B) E) (s:=s) (N₀:=S+1) hh D n hz ⟨l M,l i,l X,l g2,L7 _⟩ (λh' vs c C p K=>⟨rfl,W h' vs c (λa o c1 c2 c3 c4 e=>K a o c1 c2 c3 c4 (λq=>by clear K p C l y k d m H h1 k2 h hH P W G n;subst q;exact absurd (Lv e) (Z j (Ni _))) e) C (p.Dk (LN S))⟩) _ 0 V #[] _ rfl (Lf _) (K2 y.symm) Z3 d .nil (λa o _ _ _ _ c5 e=>k a o c5 e)⟩
end
noncomputable def e3(N:Nat){c:Type}:KasT c->(c->Prop)->Prop
 |.ret a,P=>P a
 |.ask i j k,P=>i<N/\j<N/\∀b,e3 N (k b) P
theorem e3.bind{c d:Type}{f:c->KasT d}{P:d->Prop}:∀{t:KasT c},e3 N t (λa=>e3 N (f a) P)->e3 N (t.bind f) P
 |.ret a,h=>h
 |.ask i j k,h=>⟨h.1,h.2.1,λb=>e3.bind (h.2.2 b)⟩
theorem e3.bv{c:Type}{P Q:c->Prop}(k:∀a,P a->Q a):∀{t:KasT c},e3 N t P->e3 N t Q
 |.ret a,h=>k a h
 |.ask i j _,h=>⟨h.1,h.2.1,λb=>e3.bv k (h.2.2 b)⟩
abbrev pN(N:Nat)(p:Array Nat):Prop:=p.Perm (PF (L3 N))
theorem pN.lt(h:pN N p)(pos:0<N)(i:Nat):p.getD i 0<N:=by
 by_cases c:i<p.size
 ·have e:p.getD i 0=p[i]:=by simp[Tl,c]
  refine Z e ?_;simpa using(h.mem_iff.mp (Array.getElem_mem c))
 ·have e:p.getD i 0=0:=by simp[Tl,c]
  exact Z e pos
section
variable {N:Nat} (pos:0<N)
include pos
theorem um(h:pN N p):∀(f n:Nat),e3 N (kas_asc p f n) λ_=>True
 |0,n=>trivial
 |f+1,n=>⟨h.lt pos _,h.lt pos _,λb=>by
  try dsimp only
  split;·exact trivial
  ·exact um h f (n+1)⟩
theorem m1(h:pN N p)(i j:Nat):pN N (kas_rev p i j):=(mirror_perm _ _ _ _).trans h
theorem mK:∀(f:Nat) {p:Array Nat} (n q:Nat),pN N p->e3 N (kas_desc f p n q) λr=>pN N r.1
 |0,p,n,q,h=>h
 |f+1,p,n,q,h=>⟨h.lt pos _,h.lt pos _,λb=>by
  try dsimp only
  split
  ·split
   ·exact mK f _ _ (m1 pos h _ _)
   ·exact mK f _ _ h
  ·refine⟨h.lt pos _,h.lt pos _,λc=>?_⟩
   try dsimp only
   split;·exact h
   ·exact mK f _ _ h⟩
theorem wz(h:pN N p)(n m:Nat):e3 N (kas_tail3 n m p) λr=>pN N r.2:=
 e3.bind ((um pos (m1 pos h _ _) _ _).bv λ_ _=>m1 pos h _ _)
theorem lV(h:pN N p)(n m:Nat):e3 N (kas_descPart n m p) λr=>pN N r.2:=
 e3.bind ((mK pos _ _ _ h).bv λr H=>by
  try dsimp only
  split;·exact wz pos (m1 pos H _ _) _ _
  ·exact wz pos H _ _)
theorem AE(h:pN N p)(m:Nat):e3 N (kas_count m p) λr=>pN N r.2:=
 e3.bind ((um pos h _ _).bv λn _=>by
  try dsimp only
  split;·exact h
  ·split
   ·refine⟨h.lt pos _,h.lt pos _,λc=>?_⟩
    try dsimp only
    split;·exact h
    ·exact lV pos (m1 pos h _ _) _ _
   ·exact lV pos h _ _)
theorem nX(h:pN N p)(k:Nat):∀(f l r:Nat),e3 N (kas_place p k f l r) λ_=>True
 |0,l,r=>trivial
 |f+1,l,r=>by
  unfold kas_place;split;·exact trivial
  ·refine⟨h.lt pos _,h.lt pos _,λb=>?_⟩
   try dsimp only
   split;·exact nX h k f _ _
   ·exact nX h k f _ _
theorem Bv:∀(f:Nat) {p:Array Nat} (k:Nat),pN N p->e3 N (kas_bin f p k) (pN N)
 |0,p,k,h=>h
 |f+1,p,k,h=>e3.bind ((nX pos h _ _ _ _).bv λl _=>Bv f _ ((bubble_perm _ _ _).trans h))
theorem CA:e3 N (kas_sort N) (pN N):=
 e3.bind ((AE pos (Ua _) _).bv λr h=>by
  try dsimp only
  split;·exact Bv pos _ _ h
  ·exact h)
end
theorem e3.run{N:Nat}{d:Type}{P:d->Prop}{c:Nat->Nat->(Bool->Le->Prop)->Le->Prop}{Q:d->Le->Prop}{s:Le}(H:∀i j,i<N->j<N->∀C:Bool->Le->Prop,(∀b,C b s)->c i j C s):∀{t:KasT d},e3 N t P->(∀a,P a->Q a s)->t.kasWp c Q s
 |.ret a,h,q=>q a h
 |.ask i j k,h,q=>H i j h.1 h.2.1 _ λb=>e3.run H (h.2.2 b) q
section
variable {A:Around}
def h7(h:Heap)(v:KV):Prop:=∃a xs n,v=.ref a/\h.get? a=U {cls:=.type "tuple",data:=.seq xs n}/\xs≠#[]/\∀x∈xs.toList,∃i t,x=.int i t
theorem h7.keep(x:h7 h v)(k:∀a o,h.get? a=U o->h'.get? a=U o):h7 h' v:=let ⟨a,xs,n,e,g,r⟩:=x;⟨a,xs,n,e,k _ _ g,r⟩
theorem pF{c a:Type}{f:c->S7 a}{P:a->Prop}:∀(l:List c) {Q:List a->Le->Prop},(∀v∈l,∀(q:a->Le->Prop),(∀r,P r->q r s)->K7 M A (f v) q E s)->(∀R,R.length=l.length->(∀r∈R,P r)->Q R s)->K7 M A (l.mapM f) Q E s:=by
 intro l;induction l with
 |nil=>intro _ _ h;simp only[List.mapM_nil];exact KY (h [] rfl λ_ h=>nomatch h)
 |cons x l i=>
  intro Q F h;refine Z List.mapM_cons (KN (F x (.head _) _ λr d=>KN (i (Q:=λbs s'=>K7 M A (pure (r::bs)) Q E s') (λv V=>F v (.tail _ V)) λR L H=>KY (h _ (by simp[L]) λy b=>?_))));rcases KZ.mp b with rfl |b
  ·exact d
  ·exact H y b
theorem Ay{vs:List KV}{Q:SortKind->Le->Prop}(u:2<=vs.length)(V:∀v∈vs,h7 s.heap v)(q:∀b,Q (Qd b) s):K7 (Lh prog w) A (keyKind' vs.toArray) Q E s:=by
 simp only[keyKind'_eq,Rz,map_eq_pure_bind];refine KN (KN (pF (P:=λr=>∃i t,r=U (PJ i t)) _ (λv H p k=>?_) (λR L m=>KY ?_)))
 ·refine rk (V v H) λa xs n c g N h=>?_;clear H;subst c
  simp only[kas_first_eq];refine KN (O7 (T:="tuple") ⟨_,g,rfl⟩ (Z (if_neg (by decide)) (KN (listItems_at g rfl ?_))));have pos:0<xs.size:=Array.size_pos_iff.mpr N;exact g1 (h xs[0] (Array.getElem_mem_toList pos)) λi t e=>KY (k _ ⟨i,t,by refine hR e ?_;simp[pos]⟩)
 ·have all:(R.toArray.all λx=>x.isSome)=true:=by simp only[List.all_toArray,L6];intro x h;refine g1 (m x h) λi t d=>?_;clear h;subst d;rfl
  refine Z (if_pos all) (KN (Oy ?_));simp only[oneTypeOnly'_eq];refine KN (KN ?_);have F:∃l:List KV,(R.toArray.filterMap id)=l.toArray/\∀x∈l,∃i t,x=PJ i t:=by
   refine⟨R.filterMap id,by simp,λx h=>aD (NM.mp h) λy o e=>g1 (m y o) λi t f=>?_⟩;clear o;subst f
   (replace e:=KP e;clear h;subst e)
   exact⟨i,t,rfl⟩
  refine aD F λl e L=>?_;simp only[e,Rz,map_eq_pure_bind];refine KN (pF (P:=λ_=>True) _ (λv H p k=>?_) (λR L m=>KY ?_))
  ·refine g1 (L v H) λi t j=>?_;clear H;subst j
   exact O7 (T:="int") (typeIs_int _ _ _) (k _ trivial)
  ·split
   ·split
    ·exact KY (KY (q _))
    ·exact KY (KY (q _))
   ·exact KY (KY (q _))
theorem sd{cU:Bool}{Q:Bool->Le->Prop}(q:∀c,Q c s):∀(l:List (KV×KV)) (i:Nat),(∀p∈l,(∃i t,p.1=PJ i t)/\∃i t,p.2=PJ i t)->KatLex prog w A b cU Q l i s
 |[],i,_=>kat_nil (q _)
 |(x,y)::r,i,h=>by
  obtain⟨⟨m,t,e⟩,n,u,E⟩:=h _ KX;simp only at e E;subst e E;refine kat_cons (wpAny_eqBool_int (kat_go (λ_=>kat_yes (sd q r (i+1) λp H=>h p (K1 _ H))) λ_=>kat_no ?_));induction B:(b&&i==0) with
  |true=>exact oneLt_int (q _)
  |false=>exact kat_one _ _ (wpAny_lt_int (q _))
theorem Ez{Q:Bool->Le->Prop}(h:h7 s.heap v)(H:h7 s.heap u)(q:∀c,Q c s):K7 (Lh prog w) A (keyLt' (Qd b) v u) Q E s:=by refine rk h λa xs n e g f x=>?_;clear h;subst e;refine rk H λc ys m d g' N y=>?_;clear H;subst d;refine kat_lt g rfl g' rfl (sd q _ _ λp P=>?_);obtain⟨p1,i⟩:=p;have:=Sb P;exact⟨x _ this.1,y _ this.2⟩
theorem uK(vs:List KV):(L3 vs.length).map (λi=>vs.getD i Mg)=vs:=by refine RR (by simp) λi H h=>?_;simp[h]
theorem zS{vs:List KV}(h:pN vs.length p):(p.toList.map λi=>vs.getD i Mg).Perm vs:=by exact((by simpa using Array.perm_iff_toList_perm.mp h:p.toList.Perm (L3 vs.length)).map _).trans (List.Perm.of_eq (uK vs))
theorem pb{a:Ln}{vs:List KV}{P:Tt->Le->Prop}(l:s.heap.get? a=U (MR "list" vs.toArray n))(K:∀v∈vs,h7 s.heap v)(m:vs.length<64)
  (h:∀out:List KV,out.Perm vs->P (.done (.ret .none)) {s with heap:=SC s.heap a vs out.toArray}):
  K7 (Lh prog w) A (Builtin.«list.sort» ⟨[.ref a],[]⟩) P E s:=by
 refine Z (list_sort_plain _) ?_;have x:a<s.heap.objs.size:=Lv l;refine KN (listItems_at l rfl ?_);refine KN (Rb l rfl ?_);obtain⟨y,o⟩:∃y,(s.heap.update a (Obj.mapSeq λ_=>#[])).get? a=U (MR "list" #[] y):=⟨_,get?_update_seq l (λ_=>#[])⟩;refine KN (R6 o rfl ?_);refine KN (QN ?_);refine KN (TV ?_);refine LX ?_;have H:(((s.heap.update a (Obj.mapSeq λ_=>#[])).push (MR "tuple" vs.toArray 0)).push (MR "list" #[] 0)).get? a=U (MR "list" #[] y):=by refine Z (Ru _ _ _ (by rw[size_push',Nz];exact M5 (No x))) (Z (Ru _ _ _ (by refine Z (Nz _ _ _) ?_;exact M5 x)) ?_);exact o
 refine(?_ :K7 (Lh prog w) A _ P E {s with heap:=((s.heap.update a (Obj.mapSeq λ_=>#[])).push (MR "tuple" vs.toArray 0)).push (MR "list" #[] 0)});dsimp only;have hsz:vs.toArray.size=vs.length:=by simp
 have V:∀v∈vs,h7 (((s.heap.update a (Obj.mapSeq λ_=>#[])).push (MR "tuple" vs.toArray 0)).push (MR "list" #[] 0)) v:=λv M=>by
  refine rh (K v M) λt xs k c g r=>?_;clear M;subst c;have N:t≠a:=λe=>by clear H o x h;subst e;have z:M3 "list"=M3 "tuple":=congrArg Ri (KP (l.symm.trans g));injection z with z;exact absurd z (by decide)
  exact⟨t,xs,k,rfl,K5 _ (K5 _ ((Mm _ _ N.symm).trans g)),r⟩
 by_cases f:vs.toArray.size<2
 ·refine Z (if_pos f) (Z (if_pos f) ?_)
  refine KN (KY ?_);refine Z (StateT.run_pure _ _) ?_;refine KN (KY ?_);dsimp only;refine KN (R6 H rfl ?_);refine KN (Rb H rfl ?_ (hsz2:=by refine Z Array.size_map ?_;refine(?_ :(PE vs).size<=_);refine Z (pairsOf_size _) (Z N2 ?_);exact bM (gF _ _) 0x7113010000006137813113823 rfl (K2 hsz.symm) f));simp only[bne_self_eq_false,L',if_false];have e:(vs.toArray.zip vs.toArray).map (·.2)=vs.toArray:=by apply RC.mp;simp[List.map_snd_zip]
  have:=h vs (Oc _);refine KY ?_;unfold SC at this;refine Z e ?_;exact this
 ·refine Z (if_neg f) (Z (if_neg f) ?_)
  have u:2<=vs.length:=bM (gF _ _) 0x237138713238 rfl (K2 hsz) (R' f);refine KN (Ay (s:={s with heap:=((s.heap.update a (Obj.mapSeq λ_=>#[])).push (MR "tuple" vs.toArray 0)).push (MR "list" #[] 0)}) u V λb=>?_);have B:Q3 (Qd b) (vs.toArray.zip vs.toArray) #[] 7 KT=kas_st (Qd b) (PE vs) (PF (L3 vs.length)):=by have e:=kas_range (PE vs);rw[pairsOf_size] at e;refine(?_ :Q3 (Qd b) (PE vs) #[] 7 KT=Q3 (Qd b) ((PF (L3 vs.length)).map (TP (PE vs))) #[] 7 KT);exact Z e rfl
  have ask:(kas_sort vs.length).kasWp (kas_cmp prog w A (Qd b) (PE vs)) (λp s'=>pN vs.length p/\s'={s with heap:=((s.heap.update a (Obj.mapSeq λ_=>#[])).push (MR "tuple" vs.toArray 0)).push (MR "list" #[] 0)})
    {s with heap:=((s.heap.update a (Obj.mapSeq λ_=>#[])).push (MR "tuple" vs.toArray 0)).push (MR "list" #[] 0)}:=by
   refine hR (kas_ask_eq _) ?_;refine e3.run (λi j I J C L=>?_) (CA (LJ ‹_›)) (λp D=>⟨D,rfl⟩);unfold kas_ask;have W:vs.getD i Mg∈vs:=by
    have e:vs.getD i Mg=vs[i]:=by simp[I]
    refine Z e ?_;exact NA I
   have X:vs.getD j Mg∈vs:=by
    have e:vs.getD j Mg=vs[j]:=by simp[J]
    refine Z e ?_;exact NA J
   exact Ez (s:={s with heap:=((s.heap.update a (Obj.mapSeq λ_=>#[])).push (MR "tuple" vs.toArray 0)).push (MR "list" #[] 0)}) (V _ W) (V _ X) L
  have run:=kas_runs (E:=E) (Q:=λ_ S s'=>∃p:Array Nat,pN vs.length p/\p.size=vs.length/\arrOf S=p.map (TP (PE vs))/\failedOf S=KT/\s'={s with heap:=((s.heap.update a (Obj.mapSeq λ_=>#[])).push (MR "tuple" vs.toArray 0)).push (MR "list" #[] 0)})
   u m (λp' S s' a1 a2 a3 G=>⟨p',G.1,a1,a2,a3,G.2⟩) ask;simp only[<-B] at run;refine KN (Lc run ?_ λ_ _ e=>e);rintro⟨⟨⟩,S⟩ s' q;refine il q λp D F R hf d=>?_;subst d;dsimp only;have T:(arrOf S).map (·.2)=PF (p.toList.map λi=>vs.getD i Mg):=by
   apply RC.mp
   (refine Z R (Z Array.map_map ?_);refine Z Array.toList_map ?_)
   exact My λi _=>by refine(?_ :(TP (PE vs) i).2=_);exact Z (kas_item_eq _ _) rfl
  refine Z T ?_;refine KN (R6 H rfl ?_);refine KN (Rb H rfl ?_ (hsz2:=by simp only[Ry,KS,Lq,F,N2];exact bM (kS _) 0x7113010000006131137404 rfl m));refine Z hf ?_;simp only[bne_self_eq_false,L',if_false];exact KY (h _ (zS D))
theorem ka{x:KV}{vs:List KV}{Good:List KV->Prop}{Q:KV->Le->Prop}(hz:vs.length<=LV)
  (L:∀(A:NO) (Q:List KV->Le->Prop),A.handled=KT->(∀h t,(∀b o,s.heap.get? b=U o->h.get? b=U o)->Q vs {s with heap:=h,toks:=t})->K7 (Lh prog w) A (collect x) Q E s)(c:A.handled=KT)
  (H:∀(A:NO) h t a (P:Tt->Le->Prop),(∀b o,s.heap.get? b=U o->h.get? b=U o)->h.get? a=U (MR "list" vs.toArray 0)->
   (∀out:Array KV,Good out.toList->P (.done (.ret .none)) {s with heap:=SC h a vs out,toks:=t})->K7 (Lh prog w) A (Builtin.«list.sort» ⟨[.ref a],[]⟩) P E {s with heap:=h,toks:=t})
  (q:∀h' D out e t,(∀b o,s.heap.get? b=U o->h'.get? b=U o)->s.heap.get? D=KT->h'.get? D=U (MR "list" out e)->Good out.toList->Q (.ref D) {s with heap:=h',toks:=t}):
  K7 (Lh prog w) A (call (.builtin "sorted") [x]) Q E s:=by
 refine Calls.call_function_entry kind_sorted plain_sorted entry_sorted (args_sorted1 _) ?_;unfold Builtin.«sorted»;refine KN (m:=checkCount "sorted" 1 1 _) (KY (KN (L _ _ c λh t k=>KN (TV ?_ hz))));have l:(h.push (MR "list" vs.toArray 0)).get? h.objs.size=U (MR "list" vs.toArray 0):=La _ rfl;have K:∀b o,s.heap.get? b=U o->(h.push (MR "list" vs.toArray 0)).get? b=U o:=λb o e=>K5 _ (k b o e);refine(?_ :K7 _ _ _ _ _ {s with heap:=h.push (MR "list" vs.toArray 0),toks:=t});refine KN (LX (MK slot_list_sort ⟨_,l,rfl⟩ entry_list_sort (H _ (h.push (MR "list" vs.toArray 0)) t h.objs.size _ K l λout g=>⟨_,rfl,?_⟩) (args_list_sort _)));have fr:s.heap.get? h.objs.size=KT:=by
  induction e:s.heap.get? h.objs.size with
  |none=>rfl
  |some o=>exact absurd (Lv (k _ _ e)) (Ni _)
 refine cY (sortedHeap_at (vs:=vs) (out:=out) l) λe d=>KY ⟨_,rfl,q _ _ out e t (λb o B=>?_) fr d g⟩;have lt:=Lv (k b o B);exact Z (sortedHeap_old (M5 lt) (Z (MX _ _) (No lt))) (K b o B)
end
structure ds where
 prog:Mi
 w:MW
 K:Pb
 cls:String->Option Ln
 base:Heap
 gens:Array R4
 os:SU
 fn:String->Option Ln
 mg:K3->Option KV
 mb:K3->Option KV
 gH:List String
structure Ad where
 f:cq->Ln
 z:Ln->Prop
def e2(H:Hp)(ad:Ad)(a:Ln):Prop:=∃r,(H.o r).isSome=true/\ad.f r=a
def jx(H:Hp)(ad:Ad)(a:Ln):Prop:=¬e2 H ad a/\¬ad.z a
inductive eS{c d:Type}(R:c->d->Prop):List c->List d->Prop
 |nil:eS R [] []
 |cons {a b l r}:R a b->eS R l r->eS R (a::l) (b::r)
theorem eS.bv{c d:Type}{R S:c->d->Prop}{l:List c}{r:List d}(h:eS R l r)(f:∀a b,R a b->S a b):eS S l r:=by
 induction h with
 |nil=>exact .nil
 |cons h _ i=>exact .cons (f _ _ h) i
theorem eS.length{a b:Type}{R:a->b->Prop}{l:List a}{r:List b}(h:eS R l r):l.length=r.length:=by
 induction h with
 |nil=>rfl
 |cons _ _ i=>simp[i]
inductive Gx(c:String)(H:Hp)(ad:Ad)(h:Heap)(P:List KV->Prop)(x:KV):Prop
 |mk (a:Ln) (xs:Array KV) (n:Nat) (e:x=.ref a) (i:jx H ad a) (g:h.get? a=U {cls:=.type c,data:=.seq xs n}) (z:xs.size<=LV) (r:P xs.toList)
inductive Iz(H:Hp)(ad:Ad)(h:Heap)(k:Option Ln)(r:cq)(x:KV):Prop
 |mk (a c:Ln) (e:x=.ref a) (i:jx H ad a) (C:k=U c) (g:h.get? a=U (N9 c (ad.f r))) (l:r.n<H.n)
inductive I0(H:Hp)(ad:Ad)(h:Heap)(n:Int)(x:KV):Prop
 |mk (a:Ln) (t u v:Nat) (e:x=.ref a) (i:jx H ad a) (g:IsRange h a 0 n 1 t u v) (l:0<=n/\n<=aN)
inductive Hu(P:KV->Prop)(Q:List KV->Prop)(xs:List KV):Prop
 |mk (x:KV) (r:List KV) (e:xs=x::r) (p:P x) (q:Q r)
section
variable (κ:ds)
mutual
noncomputable def aJ(H:Hp)(ad:Ad)(h:Heap):V->KV->Prop
 |.none,x=>x=.none
 |.bool b,x=>x=.bool b
 |.int i,x=>∃t,x=.int i t
 |.str s,x=>∃t,x=.str (KR s) t
 |.aA l,x=>Gx "tuple" H ad h (aF H ad h l) x
 |.fl l,x=>Gx "list" H ad h (aF H ad h l) x
 |.eQ C r,x=>Iz H ad h (κ.cls C) r x
 |.ref r,x=>x=.ref (ad.f r)/\r.n<H.n
 |.yC n,x=>I0 H ad h n x
noncomputable def aF(H:Hp)(ad:Ad)(h:Heap):List V->List KV->Prop
 |[],xs=>xs=[]
 |v::l,xs=>Hu (aJ H ad h v) (aF H ad h l) xs
end
def cv(o:Lg):Prop:=(∃es n,o.data=.dict es n)\/∃v,o.data=.cell v
structure Step(X:Ln->Prop)(ad:Ad)(H:Hp)(h:Heap)(ad':Ad)(H':Hp)(h':Heap):Prop where
 keep:∀b o,h.get? b=U o->¬e2 H ad b->(X b->¬cv o)->h'.get? b=U o
 ext:∀r,r.n<H.n->ad'.f r=ad.f r
 z:ad'.z=ad.z
 fresh:∀r,(H'.o r).isSome=true->r.n<H'.n->((H.o r).isSome=true/\r.n<H.n)\/(H.n<=r.n/\h.get? (ad'.f r)=KT)
 n:H.n<=H'.n
 e4:∀r,r.n<H.n->H.e4 r<=H'.e4 r
 same:∀r,r.n<H.n->(H.o r).isSome=true->(H'.o r).isSome=true->H'.e4 r=H.e4 r->H'.o r=H.o r/\h'.get? (ad.f r)=h.get? (ad.f r)
 bv:∀b o,h.get? b=U o->∃a,h'.get? b=U a
noncomputable def d2.toV:d2->V
 |.int i=>.int i
 |.gJ l=>.aA (ae l)
noncomputable def bQ.toV(k:bQ):V:=.aA [.str k.op,.aA (ae k.args),.int k.oU,k.data.toV]
inductive JD(h:Heap)(a:Ln)(P:List KV->Prop):Prop
 |mk (vs:Array KV) (n:Nat) (g:h.get? a=U {cls:=.type "list",data:=.seq vs n}) (z:vs.size<=LV) (r:P vs.toList)
inductive B'{a:Type}(D R:List a->Prop):Prop
 |mk (k:List a) (d:D k) (f:R k)
def ij(H:Hp)(ad:Ad)(h:Heap)(a:Ln):Obj->Prop
 |.list xs=>JD h a (aF κ H ad h xs)
 |.dI es=>B' (h.DictOf (MC κ.prog κ.w) a) (eS (λe f=>e.1=f.1/\aJ κ H ad h e.2 f.2) es)
 |.dS es=>B' (h.DictOf (Mh κ.prog κ.w) a) (eS (λe f=>KR e.1=f.1/\aJ κ H ad h e.2 f.2) es)
 |.dP es=>B' (h.DictOfH (tK κ.prog κ.w) a) (eS (λe f=>e.1=f.1/\jx H ad f.2.1/\aJ κ H ad h e.2 f.2.2) es)
 |.dN es=>B' (h.DictOfH (nK κ.prog κ.w) a) (eS (λe f=>e.1=f.1/\aJ κ H ad h e.1.toV (.ref f.2.1)/\aJ κ H ad h e.2 f.2.2) es)
structure bg(H:Hp)(ad:Ad)(s:Le):Prop where
 base:∀b o,κ.base.get? b=U o->s.heap.get? b=U o
 gens:s.gens=κ.gens
 os:s.os=κ.os
 au:∀r,(H.o r).isSome=true->r.n<H.n
 inj:∀r q,(H.o r).isSome=true->(H.o q).isSome=true->ad.f r=ad.f q->r=q
 new:∀r,(H.o r).isSome=true->κ.base.get? (ad.f r)=KT
 obj:∀r o,H.o r=U o->ij κ H ad s.heap (ad.f r) o
 zf:∀a,ad.z a->¬e2 H ad a
 lD:∀a,ad.z a->∃o,s.heap.get? a=U o
 zb:∀a,ad.z a->κ.base.get? a=KT
end
variable {κ:ds} {X:Addr->Prop} {ad ad' Uz:Ad} {H H' Uw:Hp} {UA:Heap}
section
variable {Uc:Addr->Prop} {h:Heap}
theorem ij.ex{a:Ln}{o:Obj}(r:ij κ H ad h a o):∃b,h.get? a=U b:=by
 cases o with
 |list xs=>obtain⟨vs,n,e,_⟩:=r;exact⟨_,e⟩
 |dI es=>obtain⟨k,⟨o,_,_,e,_⟩,_⟩:=r;exact⟨_,e⟩
 |dS es=>obtain⟨k,⟨o,_,_,e,_⟩,_⟩:=r;exact⟨_,e⟩
 |dP es=>obtain⟨k,⟨o,_,_,e,_⟩,_⟩:=r;exact⟨_,e⟩
 |dN es=>obtain⟨k,⟨o,_,_,e,_⟩,_⟩:=r;exact⟨_,e⟩
theorem bg.c0(R:bg κ H ad s){a:Ln}(l:e2 H ad a):∃b,s.heap.get? a=U b:=by obtain⟨r,h,rfl⟩:=l;obtain⟨o,c⟩:=LY.mp h;exact(R.obj r o c).ex
theorem Step.refl:Step X ad H h ad H h:=
 ⟨λ_ _ e _ _=>e,λ_ _=>rfl,rfl,λ_ e n=>.inl ⟨e,n⟩,K9 _,λ_ _=>K9 _,λ_ _ _ _ _=>⟨rfl,rfl⟩,λ_ o e=>⟨o,e⟩⟩
abbrev bS(H:Hp):Prop:=∀r,(H.o r).isSome=true->r.n<H.n
theorem Step.mJ(S:Step X ad H h ad' H' h')(st:bS H'){b:Ln}{o:Lg}(e:h.get? b=U o)(n:¬e2 H ad b):¬e2 H' ad' b:=by
 rintro⟨r,R,rfl⟩;rcases S.fresh r R (st r R) with⟨h1,a⟩ |h1
 ·exact n ⟨r,h1,(S.ext r a).symm⟩
 ·rw[h1.2] at e;cases e
theorem Step.r2(S:Step X ad H h ad' H' h')(st:bS H'){b:Ln}{o:Lg}(e:h.get? b=U o)(i:jx H ad b):jx H' ad' b:=
 ⟨S.mJ st e i.1,by rw[S.z];exact i.2⟩
theorem Step.trans(S:Step X ad H h ad' H' h')(T:Step X ad' H' h' Uz Uw UA)(st:bS H'):Step X ad H h Uz Uw UA where
 keep:=λb o e N nx=>T.keep b o (S.keep b o e N nx) (S.mJ st e N) nx
 ext:=λr R=>(T.ext r (Li R S.n)).trans (S.ext r R)
 z:=T.z.trans S.z
 fresh:=λr R j=>by
  rcases T.fresh r R j with⟨h1,g⟩ |h1
  ·rw[T.ext r g]
   exact S.fresh r h1 g
  ·refine .inr ⟨KQ S.n h1.1,?_⟩
   cases e:h.get? (Uz.f r) with
   |none=>rfl
   |some o=>obtain⟨i,E⟩:=S.bv _ _ e;rw[h1.2] at E;cases E
 n:=KQ S.n T.n
 e4:=λr R=>KQ (S.e4 r R) (T.e4 r (Li R S.n))
 same:=λr R k g e=>by
  have f:=Li R S.n;have v:=S.e4 r R;have V:=T.e4 r f;have l:H'.e4 r=H.e4 r:=by omega
  have m:Uw.e4 r=H'.e4 r:=by omega
  have h1:(H'.o r).isSome=true:=by
   rcases T.fresh r g (Li f T.n) with⟨a,_⟩ |⟨a,_⟩
   ·exact a
   ·omega
  obtain⟨a,b⟩:=T.same r f h1 g m;obtain⟨c,d⟩:=S.same r R k h1 l;rw[S.ext r R] at b;exact⟨a.trans c,b.trans d⟩
 bv:=λb o e=>let ⟨i,E⟩:=S.bv b o e;T.bv b i E
theorem Step.bT(S:Step X ad H h ad' H' h')(k:∀a,X a->Uc a):Step Uc ad H h ad' H' h':=
 ⟨λb o e n nx=>S.keep b o e n λx=>nx (k _ x),S.ext,S.z,S.fresh,S.n,S.e4,S.same,S.bv⟩
theorem hV{o:Lg}{xs n}(e:o.data=.seq xs n):¬cv o:=by rintro(⟨es,m,d⟩ |⟨v,d⟩)<;>rw[e] at d<;>cases d
theorem AA{o:Lg}(e:o.data=.plain):¬cv o:=by rintro(⟨es,m,d⟩ |⟨v,d⟩)<;>rw[e] at d<;>cases d
theorem ls{o:Lg}{xs}(e:o.data=.fields xs):¬cv o:=by rintro(⟨es,m,d⟩ |⟨v,d⟩)<;>rw[e] at d<;>cases d
structure fJ(ad:Ad)(H:Hp)(h:Heap)(ad':Ad)(H':Hp)(h':Heap):Prop where
 r2:∀b o,h.get? b=U o->¬cv o->jx H ad b->jx H' ad' b/\h'.get? b=U o
 ext:∀r,r.n<H.n->ad'.f r=ad.f r
 n:H.n<=H'.n
theorem Step.aL(S:Step X ad H h ad' H' h')(st:bS H'):fJ ad H h ad' H' h':=
 ⟨λb o e f i=>⟨S.r2 st e i,S.keep b o e i.1 λ_=>f⟩,S.ext,S.n⟩
end
section
variable {Uc:Addr->Prop} {h:Heap} (S:fJ ad H h ad' H' h')
include S
mutual
theorem aJ.aL:∀{v:V} {x:KV},aJ κ H ad h v x->aJ κ H' ad' h' v x
 |.none,x,e=>e
 |.bool b,x,e=>e
 |.int i,x,e=>e
 |.str i,x,e=>e
 |.aA l,x,e=>by
  obtain⟨a,xs,n,E,d,f,k,j⟩:=e
  obtain⟨i,g⟩:=S.r2 _ _ f (hV rfl) d
  exact⟨a,xs,n,E,i,g,k,aF.aL j⟩
 |.fl l,x,e=>by
  obtain⟨a,xs,n,E,d,f,k,j⟩:=e
  obtain⟨i,g⟩:=S.r2 _ _ f (hV rfl) d
  exact⟨a,xs,n,E,i,g,k,aF.aL j⟩
 |.eQ C r,x,e=>by
  obtain⟨a,c,E,d,f,j,k⟩:=e
  obtain⟨i,g⟩:=S.r2 _ _ j (AA rfl) d
  exact⟨a,c,E,i,f,by rw[S.ext r k];exact g,Li k S.n⟩
 |.ref r,x,e=>by
  exact⟨by rw[S.ext r e.2];exact e.1,Li e.2 S.n⟩
 |.yC r,x,e=>by
  obtain⟨a,t,u,v,E,d,f,j⟩:=e
  obtain⟨i,g⟩:=S.r2 _ _ f (ls rfl) d
  exact⟨a,t,u,v,E,i,g,j⟩
theorem aF.aL:∀{l:List V} {xs:List KV},aF κ H ad h l xs->aF κ H' ad' h' l xs
 |[],xs,e=>e
 |v::l,xs,e=>by
  obtain⟨x,r,E,d,f⟩:=e
  exact⟨x,r,E,aJ.aL d,aF.aL f⟩
end
end
section
variable {Uc:Addr->Prop} {h:Heap}
theorem aJ.step(S:Step X ad H h ad' H' h')(st:bS H'){x:KV}(e:aJ κ H ad h v x):aJ κ H' ad' h' v x:=e.aL (S.aL st)
theorem aF.step(S:Step X ad H h ad' H' h')(st:bS H'){x:List KV}(e:aF κ H ad h v x):aF κ H' ad' h' v x:=e.aL (S.aL st)
theorem aF.length{l:List V}:∀{xs:List KV},aF κ H ad h l xs->l.length=xs.length:=by
 induction l with
 |nil=>intro xs e;obtain rfl:xs=[]:=e;rfl
 |cons v l i=>intro xs e;obtain⟨x,r,rfl,_,e⟩:=e;exact congrArg (·+1) (i e)
theorem aF.append{l L:List V}:∀{xs ys:List KV},aF κ H ad h l xs->aF κ H ad h L ys->aF κ H ad h (l++L) (xs++ys):=by
 induction l with
 |nil=>intro xs ys e f;obtain rfl:xs=[]:=e;exact f
 |cons v l i=>intro xs ys e f;obtain⟨x,r,rfl,E,e⟩:=e;exact⟨x,r++ys,rfl,E,i e f⟩
theorem aF.get{l:List V}:∀{xs:List KV} {i:Nat} {v:V},aF κ H ad h l xs->l[i]? =U v->∃x,xs[i]? =U x/\aJ κ H ad h v x:=by
 induction l with
 |nil=>intro xs i v e f;exact al f
 |cons u l I=>
  intro xs i v e f;obtain⟨x,r,rfl,E,e⟩:=e;cases i with
  |zero=>exact⟨x,rfl,KP f▸E⟩
  |succ i=>have q:=I (i:=i) (v:=v) e f;exact q
theorem aF.take{l:List V}:∀{xs:List KV} (n:Nat),aF κ H ad h l xs->aF κ H ad h (l.take n) (xs.take n):=by
 induction l with
 |nil=>intro xs n e;obtain rfl:xs=[]:=e;rw[SH,SH];exact rfl
 |cons u l i=>
  intro xs n e;obtain⟨x,r,rfl,E,e⟩:=e;cases n with
  |zero=>exact rfl
  |succ n=>exact⟨x,_,rfl,E,i n e⟩
theorem aF.dropLast{l:List V}(e:aF κ H ad h l xs):aF κ H ad h l.dropLast xs.dropLast:=by rw[QX,QX,e.length];exact e.take _
theorem aF.reverse{l:List V}:∀{xs:List KV},aF κ H ad h l xs->aF κ H ad h l.reverse xs.reverse:=by
 induction l with
 |nil=>intro xs e;obtain rfl:xs=[]:=e;exact rfl
 |cons u l i=>intro xs e;obtain⟨x,r,rfl,E,e⟩:=e;rw[PH,PH];exact(i e).append ⟨x,[],rfl,E,rfl⟩
theorem aF.ints{l:List Int}:∀{xs:List KV},aF κ H ad h (ae l) xs↔R2 (MC κ.prog κ.w) l xs:=by
 induction l with
 |nil=>intro xs;exact⟨λe=>by obtain rfl:xs=[]:=e;exact .nil,λe=>by cases e;rfl⟩
 |cons i l I=>
  intro xs;constructor;·rintro⟨x,r,rfl,⟨t,rfl⟩,e⟩;exact .cons (NF _ _ _ _) (I.mp e)
  ·intro e
   cases e with
   |@cons k v K vs a b=>refine⟨v,vs,rfl,?_,I.mpr b⟩;cases v<;>simp[MC,Value.isInt] at a;exact⟨_,by rw[a]⟩
theorem i9:∀{l:List V} {I:List Int},iq l=U I->l=ae I
 |[],I,e=>by obtain rfl:=KP e;rfl
 |v::r,I,e=>by obtain⟨i,h,e⟩:=bG e;obtain⟨l,H,rfl⟩:=fz e;refine Z (c1 h) (Z (i9 H) ?_);rfl
theorem aJ.tk{l:List Int}{x:KV}(e:aJ κ H ad h (.aA (ae l)) x):∃a,x=.ref a/\jt κ.prog κ.w h l a:=by obtain⟨a,xs,n,rfl,i,g,z,f⟩:=e;exact⟨a,rfl,xs,n,g,z,aF.ints.mp f⟩
theorem aJ.nk{k:bQ}{x:KV}(e:aJ κ H ad h k.toV x):∃a,x=.ref a/\kG κ.prog κ.w h k a:=by
 unfold bQ.toV at e;obtain⟨a,xs,n,rfl,i,g,z,f,r,E,⟨t,rfl⟩,X,R,rfl,d,j,m,rfl,⟨u,rfl⟩,x3,o,rfl,c,rfl⟩:=e;obtain⟨b,rfl,K⟩:=aJ.tk (show aJ κ H ad h (.aA (ae k.args)) X from d);refine⟨a,rfl,xs,n,g,z,t,b,u,x3,E,K,?_⟩;cases hd:k.data with
 |int i=>rw[hd] at c;exact c
 |gJ l=>rw[hd] at c;exact aJ.tk c
theorem ij.aL(S:fJ ad H h ad' H' h'){a:Ln}(e:h'.get? a=h.get? a):∀{o:Obj},ij κ H ad h a o->ij κ H' ad' h' a o
 |.list xs,r=>by obtain⟨vs,n,q,z,f⟩:=r;exact⟨vs,n,e.trans q,z,f.aL S⟩
 |.dI es,r=>by obtain⟨K,⟨o,E,ep,q,R⟩,f⟩:=r;exact⟨K,⟨o,E,ep,e.trans q,R⟩,f.bv λ_ _ p=>⟨p.1,p.2.aL S⟩⟩
 |.dS es,r=>by obtain⟨K,⟨o,E,ep,q,R⟩,f⟩:=r;exact⟨K,⟨o,E,ep,e.trans q,R⟩,f.bv λ_ _ p=>⟨p.1,p.2.aL S⟩⟩
 |.dP es,r=>by
  obtain⟨K,⟨o,E,ep,q,hx,hd,b,i,N⟩,f⟩:=r;have key:∀x∈K,jx H ad x.2.1:=by
   clear b i N hd hx q;induction f with
   |nil=>intro x hx;cases hx
   |cons p _ I=>
    intro x hx;rcases KZ.mp hx with rfl |hx
    ·exact p.2.1
    ·exact I x hx
  refine⟨K,⟨o,E,ep,e.trans q,hx,hd,b,λx hx=>?_,N⟩,?_⟩
  ·obtain⟨xs,n,g,z,j⟩:=i x hx
   exact⟨xs,n,(S.r2 _ _ g (hV rfl) (key x hx)).2,z,j⟩
  ·have ex:∀x∈K,∃B,h.get? x.2.1=U B/\¬cv B:=λx hx=>let ⟨_,_,g,_⟩:=i x hx;⟨_,g,hV rfl⟩
   clear b i N hd hx q key;induction f with
   |nil=>exact .nil
   |@cons p y l r P _ I=>obtain⟨B,c,d⟩:=ex y KX;exact .cons ⟨P.1,(S.r2 _ _ c d P.2.1).1,P.2.2.aL S⟩ (I λx hx=>ex x (K1 _ hx))
 |.dN es,r=>by
  obtain⟨K,⟨o,E,ep,q,hx,hd,b,i,N⟩,f⟩:=r;have F:=f.bv λe g (p:e.1=g.1/\aJ κ H ad h e.1.toV (.ref g.2.1)/\aJ κ H ad h e.2 g.2.2)=>(⟨p.1,p.2.1.aL S,p.2.2.aL S⟩:e.1=g.1/\aJ κ H' ad' h' e.1.toV (.ref g.2.1)/\aJ κ H' ad' h' e.2 g.2.2);refine⟨K,⟨o,E,ep,e.trans q,hx,hd,b,?_,N⟩,F⟩;clear b i N hd hx q f;induction F with
  |nil=>intro x hx;cases hx
  |cons p _ I=>
   intro x hx;rcases KZ.mp hx with rfl |hx
   ·obtain⟨a,A,k⟩:=p.2.1.nk
    cases A;rw[<-p.1];exact k
   ·exact I x hx
theorem Step.keeps(k:∀b o,h.get? b=U o->h'.get? b=U o)(l:∀r,(H.o r).isSome=true->∃o,h.get? (ad.f r)=U o):Step X ad H h ad H h':=
 ⟨λb o e _ _=>k b o e,λ_ _=>rfl,rfl,λ_ e n=>.inl ⟨e,n⟩,K9 _,λ_ _=>K9 _,λr _ e _ _=>⟨rfl,by obtain⟨o,q⟩:=l r e;rw[q];exact k _ _ q⟩,λb o e=>⟨o,k b o e⟩⟩
theorem bg.keeps{s':Le}(R:bg κ H ad s)(k:∀b o,s.heap.get? b=U o->s'.heap.get? b=U o)(h:s'.gens=s.gens)(c:s'.os=s.os):bg κ H ad s' where
 base:=λb o e=>k _ _ (R.base b o e)
 gens:=h.trans R.gens
 os:=c.trans R.os
 au:=R.au
 inj:=R.inj
 new:=R.new
 obj:=λr o e=>by have q:=R.obj r o e;obtain⟨B,g⟩:=q.ex;exact q.aL ((Step.keeps (X:=λ_=>False) k λr e=>R.c0 ⟨r,e,rfl⟩).aL R.au) ((k _ _ g).trans g.symm)
 zf:=R.zf
 lD:=λa q=>let ⟨o,e⟩:=R.lD a q;⟨o,k _ _ e⟩
 zb:=R.zb
theorem bg.cT{s':Le}(R:bg κ H ad s)(k:∀b o,s.heap.get? b=U o->s'.heap.get? b=U o):Step X ad H s.heap ad H s'.heap:=
 Step.keeps k λr e=>R.c0 ⟨r,e,rfl⟩
theorem bg.toks(R:bg κ H ad s)(t:Nat):bg κ H ad {s with toks:=t}:=
 ⟨R.base,R.gens,R.os,R.au,R.inj,R.new,R.obj,R.zf,R.lD,R.zb⟩
theorem Hp.dJ{r:cq}{x:Obj}(st:bS H)(R:(H.o r).isSome=true):bS (H.set r x):=by
 intro q h;refine(?_ :q.n<H.n);by_cases e:q=r;·clear h;subst e;exact st _ R
 ·refine st q ?_
  simpa[Hp.set,e] using h
theorem Hp.gn{r:cq}{x:Obj}(R:(H.o r).isSome=true){a:Ln}:e2 (H.set r x) ad a↔e2 H ad a:=by
 constructor
 ·rintro⟨q,h,rfl⟩
  by_cases e:q=r;·subst e;exact⟨q,R,rfl⟩
  ·exact⟨q,by simpa[Hp.set,e] using h,rfl⟩
 ·rintro⟨q,h,rfl⟩
  refine⟨q,?_,rfl⟩;by_cases e:q=r;·simp[Hp.set,e]
  ·simpa[Hp.set,e] using h
set_option tactic.hygienic true in
theorem bg.kg(R:bg κ H ad s){r:cq}{x:Obj}(h:(H.o r).isSome=true)(S:MP (ad.f r) s.heap h')(E:∃o,h'.get? (ad.f r)=U o):Step X ad H s.heap ad (H.set r x) h' where
 keep:=λb o e N _=>(S.2 b λq=>N ⟨r,h,q.symm⟩).trans e
 ext:=λ_ _=>rfl
 z:=rfl
 fresh:=λq e n=>by
  refine .inl ⟨?_,n⟩
  by_cases c:q=r
  ·subst c;exact h
  ·simpa[Hp.set,c] using e
 n:=K9 _
 e4:=λq _=>by
  show H.e4 q<=if q=r then H.e4 r+1 else H.e4 q
  split
  ·rename_i c;subst c;omega
  ·exact K9 _
 same:=λq _ Q _ e=>by
  have c:q≠r:=by
   rintro rfl
   simp[Hp.set] at e
  exact⟨by simp[Hp.set,c],S.2 _ λz=>c (R.inj _ _ Q h z)⟩
 bv:=λb o e=>by
  by_cases c:b=ad.f r
  ·rw[c];exact E
  ·exact⟨o,(S.2 b c).trans e⟩
theorem bg.Bn(R:bg κ H ad s){r:cq}{x:Obj}(h:(H.o r).isSome=true)(S:MP (ad.f r) s.heap h')(d:ij κ (H.set r x) ad h' (ad.f r) x)(t:Nat):
  bg κ (H.set r x) ad {s with heap:=h',toks:=t} where
 base:=λb o e=>(S.2 b λq=>by subst q;rw[R.new r h] at e;cases e).trans (R.base b o e)
 gens:=R.gens
 os:=R.os
 au:=Hp.dJ R.au h
 inj:=λp q P Q e=>by
  have f:∀z,((H.set r x).o z).isSome=true->(H.o z).isSome=true:=λz hz=>by
   by_cases c:z=r;·subst c;exact h
   ·simpa[Hp.set,c] using hz
  exact R.inj p q (f p P) (f q Q) e
 new:=λq Q=>by
  by_cases c:q=r;·subst c;exact R.new _ h
  ·exact R.new q (by simpa[Hp.set,c] using Q)
 obj:=λq o e=>by
  by_cases c:q=r
  ·subst c
   simp[Hp.set] at e;subst e;exact d
  ·have E:H.o q=U o:=by simpa[Hp.set,c] using e
   exact(R.obj q o E).aL ((R.kg (X:=λ_=>False) h S d.ex).aL (Hp.dJ R.au h)) (S.2 _ λz=>c (R.inj _ _ (by rw[E];rfl) h z))
 zf:=λa q l=>R.zf a q ((Hp.gn h).mp l)
 lD:=λa q=>by obtain⟨o,e⟩:=R.lD a q;exact⟨o,(S.2 a λz=>R.zf a q ⟨r,h,z.symm⟩).trans e⟩
 zb:=R.zb
noncomputable def Ad.a9(ad:Ad)(D:Ln):Ad:=⟨ad.f,λa=>a=D\/ad.z a⟩
noncomputable def Ad.aH(ad:Ad)(r:cq)(a:Ln):Ad:=⟨λq=>if q=r then a else ad.f q,ad.z⟩
theorem Hp.xw{k:Nat}{t:Int}{x:Obj}(st:bS H):bS (H.new k t x):=by
 intro q h;refine(?_ :q.n<H.n+1);by_cases e:q=⟨k,t,H.n⟩;·clear h;subst e;exact L7 _
 ·exact No (st q (by simpa[Hp.new,e] using h))
theorem Hp.q3{k:Nat}{t:Int}{r:cq}(h:r.n<H.n):r≠⟨k,t,H.n⟩:=by rintro rfl;exact Ni _ h
theorem cy{D:Ln}(k:∀b o,h.get? b=U o->h'.get? b=U o)(d:h.get? D=KT):fJ ad H h (ad.a9 D) H h':=
 ⟨λb o e _ i=>⟨⟨i.1,λq=>q.elim (λq=>by subst q;rw[d] at e;cases e) i.2⟩,k _ _ e⟩,λ_ _=>rfl,K9 _⟩
theorem fq:fJ (ad.a9 D) H h ad H h:=
 ⟨λb o e _ i=>⟨⟨i.1,λq=>i.2 (.inr q)⟩,e⟩,λ_ _=>rfl,K9 _⟩
theorem qN{k:Nat}{t:Int}(st:bS H):fJ (ad.a9 D) H h (ad.aH ⟨k,t,H.n⟩ D) (H.new k t x) h:=by
 refine⟨λb o e _ i=>⟨⟨?_,λq=>i.2 (.inr q)⟩,e⟩,λr R=>?_,LN _⟩
 ·rintro⟨r,R,rfl⟩
  by_cases c:r=⟨k,t,H.n⟩;·exact i.2 (.inl (by simp[Ad.aH,c]))
  ·refine i.1 ⟨r,by simpa[Hp.new,c] using R,?_⟩
   simp[Ad.a9,Ad.aH,c]
 ·simp[Ad.aH,Ad.a9,Hp.q3 R]
theorem bg.a9{s':Le}{D:Ln}(R:bg κ H ad s)(k:∀b o,s.heap.get? b=U o->s'.heap.get? b=U o)(G:s'.gens=s.gens)(c:s'.os=s.os)(h:s.heap.get? D=none)(d:∃o,s'.heap.get? D=U o):bg κ H (ad.a9 D) s' where
 base:=λb o e=>k _ _ (R.base b o e)
 gens:=G.trans R.gens
 os:=c.trans R.os
 au:=R.au
 inj:=R.inj
 new:=R.new
 obj:=λr o e=>by have q:=R.obj r o e;obtain⟨B,g⟩:=q.ex;exact q.aL (cy k h) ((k _ _ g).trans g.symm)
 zf:=λa q l=>by
  rcases q with rfl |q
  ·obtain⟨o,e⟩:=R.c0 l
   rw[h] at e;cases e
  ·exact R.zf a q l
 lD:=λa q=>by
  rcases q with rfl |q
  ·exact d
  ·obtain⟨o,e⟩:=R.lD a q;exact⟨o,k _ _ e⟩
 zb:=λa q=>by
  rcases q with rfl |q
  ·cases e:κ.base.get? a with
   |none=>rfl
   |some o=>have:=R.base _ _ e;rw[h] at this;cases this
  ·exact R.zb a q
theorem bg.w4{D:Ln}(R:bg κ H (ad.a9 D) s):bg κ H ad s:=
 ⟨R.base,R.gens,R.os,R.au,R.inj,R.new,λr o e=>(R.obj r o e).aL fq rfl,λa q=>R.zf a (.inr q),λa q=>R.lD a (.inr q),λa q=>R.zb a (.inr q)⟩
theorem bg.aH{D:Ln}{k:Nat}{t:Int}{x:Obj}(R:bg κ H (ad.a9 D) s)(n:¬ad.z D)(b:κ.base.get? D=none)(X:ij κ H (ad.a9 D) s.heap D x):bg κ (H.new k t x) (ad.aH ⟨k,t,H.n⟩ D) s where
 base:=R.base
 gens:=R.gens
 os:=R.os
 au:=Hp.xw R.au
 inj:=λp q P Q e=>by
  by_cases c:p=⟨k,t,H.n⟩
  ·by_cases d:q=⟨k,t,H.n⟩
   ·rw[c,d]
   ·exfalso
    refine R.zf D (.inl rfl) ⟨q,by simpa[Hp.new,d] using Q,?_⟩;simpa[Ad.aH,Ad.a9,c,d] using e.symm
  ·by_cases d:q=⟨k,t,H.n⟩
   ·exfalso
    refine R.zf D (.inl rfl) ⟨p,by simpa[Hp.new,c] using P,?_⟩;simpa[Ad.aH,Ad.a9,c,d] using e
   ·exact R.inj p q (by simpa[Hp.new,c] using P) (by simpa[Hp.new,d] using Q) (by simpa[Ad.aH,Ad.a9,c,d] using e)
 new:=λr h=>by
  by_cases c:r=⟨k,t,H.n⟩;·simpa[Ad.aH,c] using b
  ·have:=R.new r (by simpa[Hp.new,c] using h)
   simpa[Ad.aH,Ad.a9,c] using this
 obj:=λr o e=>by
  by_cases c:r=⟨k,t,H.n⟩
  ·subst c
   simp[Hp.new] at e;subst e;have:=X.aL (qN (k:=k) (t:=t) (x:=x) R.au) rfl;simpa[Ad.aH] using this
  ·have E:H.o r=U o:=by simpa[Hp.new,c] using e
   have:=(R.obj r o E).aL (qN (k:=k) (t:=t) (x:=x) R.au) rfl;simpa[Ad.aH,Ad.a9,c] using this
 zf:=λa q l=>by
  obtain⟨r,h,e⟩:=l;by_cases c:r=⟨k,t,H.n⟩
  ·have:D=a:=by simpa[Ad.aH,c] using e
   exact n (this▸q)
  ·exact R.zf a (.inr q) ⟨r,by simpa[Hp.new,c] using h,by simpa[Ad.aH,Ad.a9,c] using e⟩
 lD:=λa q=>R.lD a (.inr q)
 zb:=λa q=>R.zb a (.inr q)
theorem Step.aH{d:Heap}{D:Ln}(S:Step X ad H d ad' H' h)(st:bS H'){k:Nat}{t:Int}{x:Obj}(g:d.get? D=none):
  Step X ad H d (Ad.aH ad' ⟨k,t,H'.n⟩ D) (H'.new k t x) h where
 keep:=S.keep
 ext:=λr R=>by show(if r=⟨k,t,H'.n⟩ then D else ad'.f r)=ad.f r;rw[if_neg (Hp.q3 (Li R S.n))];exact S.ext r R
 z:=S.z
 fresh:=λr e n=>by
  show _\/(_/\d.get? (if r=⟨k,t,H'.n⟩ then D else ad'.f r)=none);by_cases c:r=⟨k,t,H'.n⟩;·rw[if_pos c];subst c;exact .inr ⟨S.n,g⟩
  ·rw[if_neg c]
   have E:(H'.o r).isSome=true:=by simpa[Hp.new,c] using e
   exact S.fresh r E (st r E)
 n:=LH S.n
 e4:=λr R=>by
  show H.e4 r<=if r=⟨k,t,H'.n⟩ then 0 else H'.e4 r
  rw[if_neg (Hp.q3 (Li R S.n))];exact S.e4 r R
 same:=λr R i j e=>by
  have c:=Hp.q3 (k:=k) (t:=t) (Li R S.n);have f:(H'.o r).isSome=true:=by simpa[Hp.new,c] using j
  have E:H'.e4 r=H.e4 r:=by simpa[Hp.new,c] using e
  obtain⟨a,b⟩:=S.same r R i f E;exact⟨by simpa[Hp.new,c] using a,b⟩
 bv:=S.bv
theorem Step.Hc{D:Ln}(S:Step X (ad.a9 D) H h ad' H' h'):Step X ad H h ⟨ad'.f,ad.z⟩ H' h':=
 ⟨S.keep,S.ext,rfl,S.fresh,S.n,S.e4,S.same,S.bv⟩
theorem Step.mI{D:Ln}(S:Step X (ad.a9 D) H h ad' H' h'):ad'=Ad.a9 ⟨ad'.f,ad.z⟩ D:=by have:=S.z;obtain⟨f,z⟩:=ad';simp only at this;subst this;rfl
theorem Hp.vv{r:cq}(st:bS H):bS (H.drop r):=by
 intro q h;by_cases e:q=r;·subst e;simp[Hp.drop] at h
 ·exact st q (by simpa[Hp.drop,e] using h)
theorem Hp.pG{r:cq}{a:Ln}(l:e2 (H.drop r) ad a):e2 H ad a:=by
 obtain⟨q,h,rfl⟩:=l;refine⟨q,?_,rfl⟩;by_cases e:q=r;·subst e;simp[Hp.drop] at h
 ·simpa[Hp.drop,e] using h
theorem dq:fJ ad H h ad (H.drop r) h:=
 ⟨λb o e _ i=>⟨⟨λl=>i.1 (Hp.pG l),i.2⟩,e⟩,λ_ _=>rfl,K9 _⟩
theorem bg.drop(R:bg κ H ad s)(r:cq):bg κ (H.drop r) ad s where
 base:=R.base
 gens:=R.gens
 os:=R.os
 au:=Hp.vv R.au
 inj:=λp q P h e=>by
  have f:∀z,((H.drop r).o z).isSome=true->(H.o z).isSome=true:=λz hz=>by
   by_cases c:z=r;·subst c;simp[Hp.drop] at hz
   ·simpa[Hp.drop,c] using hz
  exact R.inj p q (f p P) (f q h) e
 new:=λq h=>by
  by_cases c:q=r;·subst c;simp[Hp.drop] at h
  ·exact R.new q (by simpa[Hp.drop,c] using h)
 obj:=λq o e=>by
  by_cases c:q=r;·subst c;simp[Hp.drop] at e
  ·exact(R.obj q o (by simpa[Hp.drop,c] using e)).aL dq rfl
 zf:=λa q l=>R.zf a q (Hp.pG l)
 lD:=R.lD
 zb:=R.zb
theorem Step.drop{r:cq}:Step X ad H h ad (H.drop r) h where
 keep:=λ_ _ e _ _=>e
 ext:=λ_ _=>rfl
 z:=rfl
 fresh:=λq e n=>by
  by_cases c:q=r;·subst c;simp[Hp.drop] at e
  ·exact .inl ⟨by simpa[Hp.drop,c] using e,n⟩
 n:=K9 _
 e4:=λ_ _=>K9 _
 same:=λq _ _ e _=>by
  by_cases c:q=r;·subst c;simp[Hp.drop] at e
  ·exact⟨by simp[Hp.drop,c],rfl⟩
 bv:=λ_ o e=>⟨o,e⟩
theorem aJ.rz{r:cq}{x:KV}(R:bg κ H ad s)(h:H.o r=U (.list xs))(e:aJ κ H ad s.heap (.ref r) x):aJ κ (H.drop r) ad s.heap (.fl xs) x:=by
 obtain⟨rfl,N⟩:=e;obtain⟨vs,n,q,z,f⟩:=R.obj r _ h;refine⟨_,vs,n,rfl,⟨?_,λz=>R.zf _ z ⟨r,by rw[h];rfl,rfl⟩⟩,q,z,f.aL dq⟩;rintro⟨p,P,e⟩;by_cases c:p=r;·subst c;simp[Hp.drop] at P
 ·exact c (R.inj _ _ (by simpa[Hp.drop,c] using P) (by rw[h];rfl) e)
end
structure ci(d:Nat)(A:NO):Prop where
 handled:A.handled=KT
 depth:A.depth+3*d+3<=900
 units:A.units+100*d+100<=9900
structure wP(d:Nat)(A:NO):Prop where
 handled:A.handled=KT
 depth:A.depth+3*d+1<=900
 units:A.units+100*d+60<=9900
theorem ci.c{d:Nat}(r:ci d A):wP d A:=⟨r.handled,by have:=r.depth;exact bM (gF _ _) 0x11312833700384513133128337003845 rfl this,by have:=r.units;exact bM (gF _ _) 0x13c41286447026ac51316441286447026ac5 rfl this⟩
theorem ci.Di{d e:Nat}(r:ci d A)(h:e<=d):ci e A:=⟨r.handled,by have:=r.depth;exact bM (io _ _ _) 0x133128337003845338913133129337003845 rfl h this,by have:=r.units;exact bM (io _ _ _) 0x16441286447026ac5644891316441296447026ac5 rfl h this⟩
section
variable (κ:ds)
inductive a'(X:Ln->Prop)(ad:Ad)(H:Hp)(h:Heap)(Q:PV)(x:KV)(s':Le):Prop
 |mk (ad':Ad) (H':Hp) (v:V) (q:Q v H') (r:aJ κ H' ad' s'.heap v x) (R:bg κ H' ad' s') (S:Step X ad H h ad' H' s'.heap)
inductive wV(X:Ln->Prop)(ad:Ad)(H:Hp)(h:Heap)(Q:List V->Hp->Prop)(xs:List KV)(s':Le):Prop
 |mk (ad':Ad) (H':Hp) (vs:List V) (q:Q vs H') (r:aF κ H' ad' s'.heap vs xs) (R:bg κ H' ad' s') (S:Step X ad H h ad' H' s'.heap)
inductive jv(X:Ln->Prop)(ad:Ad)(H:Hp)(h:Heap)(Q:Bool->Hp->Prop)(b:Bool)(s':Le):Prop
 |mk (ad':Ad) (H':Hp) (q:Q b H') (R:bg κ H' ad' s') (S:Step X ad H h ad' H' s'.heap)
def Ef(env:Py)(x:K3)(ov:Option V)(H:Hp)(ad:Ad)(h:Heap):Prop:=
 (env.kindOf x=U .local/\∀v,ov=U v->∃m y,h.Ns env.locals m/\m x=U y/\aJ κ H ad h v y)\/
 ((env.kindOf x=U .cell\/env.kindOf x=U .free)/\∃c,env.cells.lookup x=U c/\jx H ad c/\(∃w,h.IsCell c w)/\∀v,ov=U v->∃y,h.IsCell c (U y)/\aJ κ H ad h v y)
structure EnvR(nm:Nm)(g:Gl)(env:Py)(a:aV)(H:Hp)(ad:Ad)(h:Heap):Prop where
 kind:env.scope.kind=.function
 v8:env.globals=Ms
 blt:env.builtins=Pa
 ns:∃m,h.Ns env.locals m
 above:κ.base.objs.size<=env.locals
 im:jx H ad env.locals
 var:∀x i,nm.lookup x=U i->Ef κ env x (a[i]?).join H ad h
 c4:∀x,g.contains x=true->env.kindOf x=U .globalImplicit
 gH:g.gH=κ.gH
 ck:∀x,g.cells.contains x=true->env.kindOf x≠U .local
end
abbrev dD:Ln->Prop:=λ_=>False
variable {s':Shared} {nm:Nm} {gl:Gl} {env:Env} {J:aV}
section
variable {h:Heap}
theorem EnvR.step(V:EnvR κ nm gl env J H ad h)(S:Step dD ad H h ad' H' h')(st:bS H'):EnvR κ nm gl env J H' ad' h' where
 kind:=V.kind
 v8:=V.v8
 blt:=V.blt
 ns:=by exact q1 V.ns λm o es ep e r=>⟨m,o,es,ep,S.keep _ _ e V.im.1 λf=>f.elim,r⟩
 above:=V.above
 im:=by exact q1 V.ns λm o es ep e r=>S.r2 st e V.im
 var:=λx i X=>by
  rcases V.var x i X with⟨k,f⟩ |⟨k,c,C,I,⟨w,o,j,W⟩,f⟩
  ·exact .inl ⟨k,λv a=>cR (f v a) λm y b d q=>ts b λo es ep e r=>⟨m,y,⟨o,es,ep,S.keep _ _ e V.im.1 λf=>f.elim,r⟩,d,q.step S st⟩⟩
  ·exact .inr ⟨k,c,C,S.r2 st j I,⟨w,o,S.keep _ _ j I.1 λf=>f.elim,W⟩,λv a=>aD (f v a) λy B q=>aD B λl g d=>⟨y,⟨l,S.keep _ _ g I.1 λf=>f.elim,d⟩,q.step S st⟩⟩
 c4:=V.c4
 gH:=V.gH
 ck:=V.ck
end
section
variable {h:Heap} {α:Type} {M:Model} {A:Around}
theorem a'.trans{x:KV}(S:Step X ad H h ad' H' h')(st:bS H')(p:a' κ X ad' H' h' Q x s):a' κ X ad H h Q x s:=
 let ⟨a,b,v,q,r,R,c⟩:=p;⟨a,b,v,q,r,R,S.trans c st⟩
theorem wV.trans{Q:List V->Hp->Prop}{x:List KV}(S:Step X ad H h ad' H' h')(st:bS H')(p:wV κ X ad' H' h' Q x s):wV κ X ad H h Q x s:=
 let ⟨a,b,v,q,r,R,c⟩:=p;⟨a,b,v,q,r,R,S.trans c st⟩
theorem jv.trans{Q:Bool->Hp->Prop}{x:Bool}(S:Step X ad H h ad' H' h')(st:bS H')(p:jv κ X ad' H' h' Q x s):jv κ X ad H h Q x s:=
 let ⟨a,b,q,r,R⟩:=p;⟨a,b,q,r,S.trans R st⟩
theorem a'.toks{x:KV}{t:Nat}(p:a' κ X ad H h Q x s):a' κ X ad H h Q x {s with toks:=t}:=
 let ⟨a,b,v,q,r,R,c⟩:=p;⟨a,b,v,q,r,R.toks t,c⟩
theorem jv.toks{Q:Bool->Hp->Prop}{x:Bool}{t:Nat}(p:jv κ X ad H h Q x s):jv κ X ad H h Q x {s with toks:=t}:=
 let ⟨a,b,q,r,R⟩:=p;⟨a,b,q,r.toks t,R⟩
theorem a'.cZ{Q:PV}{v:V}{x:KV}(R:bg κ H ad s)(q:Q v H)(e:aJ κ H ad s.heap v x):a' κ X ad H s.heap Q x s:=⟨ad,H,v,q,e,R,Step.refl⟩
theorem a'.hL{Q:PV}{v:V}{x:KV}{t:Nat}(R:bg κ H ad s)(q:Q v H)(e:aJ κ H ad s.heap v x):a' κ X ad H s.heap Q x {s with toks:=t}:=⟨ad,H,v,q,e,R.toks t,Step.refl⟩
end
noncomputable def BI.val:BI->KV
 |.cQ=>.builtin "len" |.list=>.type "list" |.tuple=>.type "tuple" |.sorted=>.builtin "sorted" |.e'=>.type "list" |.range=>.type "range"
 |.min=>.builtin "min" |.max=>.builtin "max" |.int=>.type "int" |.g8=>.builtin "isinstance" |.dict=>.type "dict"
structure fG(κ:ds)(G:String->Option V):Prop where
 Ev:κ.K.In κ.base
 top:∃b o,κ.base.get? b=U o/\κ.base.objs.size<=b+1
 g:κ.base.Ns Ms κ.mg
 b:κ.base.Ns Pa κ.mb
 nolimit:κ.base.NoLimit
 get:∀C c,κ.cls C=U c->plainGet κ.K c ""=true/\hasDictIn κ.K c=true/\plainOver κ.K c=true/\Qo κ.K (.ref c) "__setattr__"=U (U (.builtin "object.__setattr__"))
 J2:∀C c f,κ.cls C=U c->gj.contains f=true->Qo κ.K (.ref c) (KR f)=U KT/\takerIn κ.K c (KR f)=U KT
 az:∀C c m fa,κ.cls C=U c->κ.fn (C++"."++m)=U fa->Qo κ.K (.ref c) (KR m)=U (U (.ref fa))/\isFn κ.K (.ref fa)=true
 JV:∀f,κ.gH.contains f=true->∃fa,κ.fn f=U fa/\κ.mg (KR f)=U (.ref fa)
 Dy:∀f fa,κ.fn f=U fa->Sv κ.K (.ref fa)=true
 EO:∀K,kB.contains K=true->∃c fa,κ.cls K=U c/\κ.fn (K++".__init__")=U fa
 Ka:∀C c,κ.cls C=U c->κ.mg (KR C)=U (.ref c)/\Sv κ.K (.ref c)=true/\makesIn κ.K c=true
 IJ:∀C c fa,κ.cls C=U c->κ.fn (C++".__init__")=U fa->Qo κ.K (.ref c) "__init__"=U (U (.ref fa))/\typeIn κ.K (.ref fa)=U (.type "function")
 Jq:(κ.base.get? NX).isSome=true
 zn:∀b:BI,κ.mg (KR b.name)=KT/\κ.mb (KR b.name)=U (BI.val b)
 HD:κ.mg "zip"=KT/\κ.mb "zip"=U (.type "zip")
 GO:∀K m v,G (K++"."++m)=U v->∃fa,κ.fn (K++"."++m)=U fa
 c4:∀x v,j1.contains x=true->G x=U v->∃y,κ.mg (KR x)=U y/\∀H ad s,bg κ H ad s->aJ κ H ad s.heap v y
def SE(κ:ds)(G:String->Option V)(C:Ctx)(d:Nat)(m:Ex):Prop:=
 ∀(e:K0) (nm:Nm) (gl:Gl),m.ok nm gl e=true->∀(A:NO) (E:KV->Le->Prop) (env:Py) (J:aV) (Q:PV) (H:Hp) (ad:Ad) (s:Le),
  ci d A->EnvR κ nm gl env J H ad s.heap->bg κ H ad s->m.wp G C J Q H->K7 (Lh κ.prog κ.w) A (NN (m.py nm e) env) (a' κ dD ad H s.heap Q) E s
def oY(κ:ds)(G:String->Option V)(C:Ctx)(d:Nat)(m:List Ex):Prop:=
 ∀(es:List K0) (nm:Nm) (gl:Gl),Ex.hN nm gl m es=true->∀(pos:Qk) (A:NO) (E:KV->Le->Prop) (env:Py) (J:aV) (Q:List V->Hp->Prop) (H:Hp) (ad:Ad) (s:Le),
  ci d A->EnvR κ nm gl env J H ad s.heap->bg κ H ad s->Ex.bh G C m J Q H->K7 (Lh κ.prog κ.w) A (spliced (NY pos (Mu (Ex.cP nm m es) env))) (wV κ dD ad H s.heap Q) E s
def ST(κ:ds)(G:String->Option V)(C:Ctx)(d:Nat)(m:Ex):Prop:=
 ∀(e:K0) (nm:Nm) (gl:Gl),m.ok nm gl e=true->∀(A:NO) (E:KV->Le->Prop) (env:Py) (J:aV) (Q:Bool->Hp->Prop) (H:Hp) (ad:Ad) (s:Le),
  ci d A->EnvR κ nm gl env J H ad s.heap->bg κ H ad s->m.rQ G C J Q H->K7 (Lh κ.prog κ.w) A (QO (m.py nm e) env (NN (m.py nm e) env)) (jv κ dD ad H s.heap Q) E s
variable {G:String->Option V} {C:Ctx} {d:Nat}
theorem xZ(c:V):SE κ G C d (.aE c):=by
 intro e nm gl a A E env J Q H ad s f V R h;refine(?_ :K7 _ A (NN (DL c e) env) _ E s);cases c with
 |none=>exact wpAny_Constant_none (a'.cZ R h rfl)
 |bool b=>exact wpAny_Constant_bool (a'.cZ R h rfl)
 |int i=>
  refine(?_ :K7 _ A (NN (if i<0 then _ else _) env) _ E s);by_cases n:i<0
  ·refine Z (if_pos n) ?_
   clear n;obtain⟨j,rfl⟩:∃j,i= -j:=⟨-i,(Tz i).symm⟩;exact Z (Tz _) (TX (PU (neg_int (a'.hL R h ⟨_,rfl⟩))))
  ·exact Z (if_neg n) (PU (a'.hL R h ⟨_,rfl⟩))
 |str t=>exact Ss (a'.hL R h ⟨_,rfl⟩)
 |_=>exact aK a
theorem hs(h:fA x=true):(x==("__debug__":K3))=false/\(x==("__classdict__":K3))=false:=⟨so (bu h).1,so (bu h).2⟩
theorem qq(i:Nat):SE κ G C d (.var i):=by
 intro e nm gl g A E env J Q H ad s t V R h;obtain⟨v,n,h⟩:=aQ h;refine ay (bu g) λL o=>ay (hs o) λl p=>K4 (V.var _ _ (beq_iff_eq.mp L)) (λr=>ay r λk f=>cR (f v n) λm y N j q=>O8 (RY V.kind k N j (a'.cZ R h q)) l) λa=>ay a λk b=>ll b λc g I _ f=>?_
 ·refine aD (f v n) λy j q=>?_
  rcases k with k |k
  ·exact O8 (Sg V.kind k g j (a'.cZ R h q)) l
  ·exact O8 (Sf V.kind k g j (a'.cZ R h q) p) l
theorem vC(k:fG κ G)(x:String):SE κ G C d (.c4 x):=by intro e nm gl h A E env J Q H ad s c V R w;obtain⟨v,a,w⟩:=aQ w;exact og h λn g h=>aD (k.c4 _ _ n a) λy b q=>Oj V.kind (V.c4 _ g) (QA (Z V.v8 (k.g.keeps R.base)) b (a'.cZ R w (q _ _ _ R))) (hs h).1
theorem sc{m:Ex}(h:m.ol=false)(nm:Nm)(e:K0)(name:K3)(env:Py)(w:S7 KV):Ra (m.py nm e) name env w=w:=by
 cases m with
 |aE c=>cases c with
  |int i=>refine(?_ :Ra (if i<0 then _ else _) name env w=w);split<;>rfl
  |_=>rfl
 |call=>exact aK h.symm
 |az=>exact aK h.symm
 |bi=>exact aK h.symm
 |new=>exact aK h.symm
 |_=>rfl
theorem FP{K:Type}[DecidableEq K]{b:K}{x:KV}{l:List (K×KV)}:Ny ((b,x)::l) b=U x:=by delta Ny;rw[List.find?_cons_of_pos (by exact decide_eq_true rfl)];rfl
theorem Da{K:Type}[DecidableEq K]{b y:K}{x:KV}{l:List (K×KV)}(h:¬b=y):Ny ((b,x)::l) y=Ny l y:=by delta Ny;rw[List.find?_cons_of_neg (by exact λe=>h (of_decide_eq_true e))]
section
variable {K:Type} [DecidableEq K] {K':Type} [DecidableEq K'] {f:K'->K} (hf:∀a b,f a=f b->a=b) {R:V->Value->Prop}
include hf
theorem gh{s:List (K×KV)}(h:eS (λe g=>f e.1=g.1/\R e.2 g.2) es s)(k:K'):
  (bc es k=KT/\Ny s (f k)=KT)\/∃v x,bc es k=U v/\Ny s (f k)=U x/\R v x:=by
 induction h with
 |nil=>exact .inl ⟨rfl,rfl⟩
 |@cons p q l r H _ i=>
  obtain⟨a,v⟩:=p;obtain⟨b,x⟩:=q;simp only at H;by_cases c:a=k
  ·clear i;subst c
   refine .inr ⟨v,x,Z hu (if_pos rfl),?_,H.2⟩;rw[H.1];exact FP
  ·rw[Da (λe=>c (hf _ _ (H.1.trans e))),hu,if_neg c];exact i
end
theorem BY{h:Heap}{K:List (K3×KV)}{prog:Mi}{w:MW}(D:h.DictOf (Mh prog w) a K):
  ∃es n,h.get? a=U (QQ es n)/\(∀x,getL x es=U (Ny K x)):=by
 refine u6 D λo es ep i b hd j p N=>?_;obtain⟨c,d,f⟩:=b;obtain⟨C,m,A,l⟩:=o;simp only at c d f hd;subst c d f hd;refine⟨es.toList,ep,by simpa[QQ] using i,λx=>?_⟩;have q:=p.find x;have e:(λe:MF=>e.key.isStr x)=λe=>(Mh prog w).is x e.key:=funext λe=>isStr_of x e.key;have nk:es.toList.any (·.refKey)=false:=by simp only[RA];intro e E;refine aD (j e (O0.mp E)) λk H _=>cY (Q0 H) λt T=>?_;simp[QS,T]
 unfold getL;refine Z e (Z nk ?_);induction g:es.toList.find? λe=>(Mh prog w).is x e.key with
 |none=>rw[g] at q;exact congrArg U q
 |some e=>rw[g] at q;exact congrArg U q
theorem yf{ad:Ad}(e:aJ κ H ad h v x):handedIn x=true:=by
 cases v;·obtain rfl:=(e:x=_);rfl
 ·obtain rfl:=(e:x=_);rfl
 ·obtain⟨t,rfl⟩:=e;rfl
 ·obtain⟨t,rfl⟩:=e;rfl
 ·obtain⟨a,xs,n,rfl,_⟩:=e;rfl
 ·obtain⟨a,xs,n,rfl,_⟩:=e;rfl
 ·obtain⟨a,c,rfl,_⟩:=e;rfl
 ·obtain⟨rfl,_⟩:=e;rfl
 ·obtain⟨a,t,u,v,rfl,_⟩:=e;rfl
theorem wc{fs:List (String×V)}(h:bC H r=U fs):H.o r=U (.dS fs):=by obtain⟨o,e,h⟩:=bG h;induction o<;>cases h;exact e
theorem q8(o:fG κ G){ad:Ad}{s:Le}{K:String}{fs:List (String×V)}(R:bg κ H ad s)(e:aJ κ H ad s.heap (.eQ K r) x)(h:bC H r=U fs):
  ∃a c es n k,x=.ref a/\κ.cls K=U c/\InstAt s.heap a (N9 c (ad.f r)) c (U (QQ es n))/\s.heap.DictOf (Mh κ.prog κ.w) (ad.f r) k/\
   (∀y,getL y es=U (Ny k y))/\eS (λe f=>KR e.1=f.1/\aJ κ H ad s.heap e.2 f.2) fs k:=by
 obtain⟨a,c,rfl,i,C,X,N⟩:=e;obtain⟨k,D,f⟩:=R.obj r _ (wc h);exact eB (BY D) λes n g gl=>⟨a,c,es,n,k,rfl,C,⟨X,rfl,rfl,g⟩,D,gl,f⟩
theorem vz(o:fG κ G)(P:SE κ G C d e)(f:String):SE κ G C d (.ao e f):=by
 intro w nm gl m A E env J Q H ad s T V R W;refine og m λN hb m=>(?_ :K7 _ A (Ra (e.py nm (cO w 0)) _ env (NN (e.py nm (cO w 0)) env)>>=_) _ E s);rw[sc (so hb)];refine KN (Lc (P _ nm gl m A E env J _ H ad s T V R W) (λx B p=>?_) λ_ _ y=>y);obtain⟨t,F,v,q,X,b,S⟩:=p;refine KN (MZ (KN (LX ?_)));cases v with
 |eQ K r=>
  obtain⟨fs,u,q⟩:=aQ q;obtain⟨v,h,q⟩:=aQ q;refine EQ (q8 o b X u) λa c es n aa g l I D i=>ay i λL af=>?_;clear X;subst g;refine fe (o.get _ _ l) λk1 k2 k3 k4=>ay (o.J2 _ _ _ l N) λf1 f2=>K4 (gh ct af f) (λj=>ay j λz _=>?_) λk=>cR k λv' y z z' M=>?_;·replace h:=z▸h;exact al h
  ·replace h:=z▸h;(replace h:=KP h;subst h)
   exact get_value (o.Ev.keeps b.base) I (plainGet_of k1).1 (findObj_own k2 f1 rfl ((lookIn_dict _ _ _).trans ((L _).trans (Z z' rfl)))) (yf M) (KN (wpAny_letTemporaryGo (KY (a'.trans S b.au (a'.hL b q M)))))
 |_=>exact q.elim
mutual
noncomputable def V.toD:V->Sx
 |.none=>.none
 |.bool b=>.bool b
 |.int i=>.int i
 |.str s=>.str (KR s)
 |.aA l=>.tuple (V.toDs l)
 |.fl l=>.list (V.toDs l)
 |_=>.none
noncomputable def V.toDs:List V->List Sx
 |[]=>[]
 |v::l=>v.toD::V.toDs l
end
theorem gb(n:Nat)(C r):(V.eQ C r).hi n=false:=by induction n<;>rfl
theorem gX(n:Nat)(r):(V.ref r).hi n=false:=by induction n<;>rfl
theorem hX(n:Nat)(r):(V.yC r).hi n=false:=by induction n<;>rfl
theorem dQ{b:Bool}{P:Prop}(h:b=true)(e:b=false):P:=by replace h:=e▸h;exact aK h
theorem rE(h:(V.aA l).hi n=true):∃m,n=m+1/\l.all (V.hi m)=true:=by
 induction n using MT with
 |zero=>exact aK h
 |succ n=>exact⟨n,rfl,h⟩
theorem q2(h:(V.fl l).hi n=true):∃m,n=m+1/\l.all (V.hi m)=true:=by
 induction n using MT with
 |zero=>exact aK h
 |succ n=>exact⟨n,rfl,h⟩
theorem all_cons{a:Type}{v:a}{l:List a}{p:a->Bool}(h:(v::l).all p=true):p v=true/\l.all p=true:=by
 simp only[List.all_cons] at h;induction e:p v with
 |true=>rw[e] at h;exact⟨rfl,h⟩
 |false=>rw[e] at h;exact aK h
mutual
theorem toD_lay:∀(v:V) (n:Nat),v.hi n=true->v.toD.canLay0=true/\v.toD.depth<=n+1
 |.none,n,_=>⟨rfl,Lf _⟩
 |.bool b,n,_=>⟨rfl,Lf _⟩
 |.int b,n,_=>⟨rfl,Lf _⟩
 |.str b,n,_=>⟨iv b,Lf _⟩
 |.aA l,n,h=>by
  obtain⟨m,rfl,h⟩:=rE h
  have t:=toDs_lay l m h
  exact⟨t.1,Lp t.2⟩
 |.fl l,n,h=>by
  obtain⟨m,rfl,h⟩:=q2 h
  have t:=toDs_lay l m h
  exact⟨t.1,Lp t.2⟩
 |.eQ C r,n,h=>dQ h (gb n C r)
 |.ref r,n,h=>dQ h (gX n r)
 |.yC r,n,h=>dQ h (hX n r)
theorem toDs_lay:∀(l:List V) (n:Nat),l.all (V.hi n)=true->Oq (V.toDs l)=true/\N' (V.toDs l)<=n+1
 |[],n,_=>⟨rfl,Lf _⟩
 |v::l,n,h=>by
  obtain⟨H,c⟩:=all_cons h
  have a:=toD_lay v n H
  have b:=toDs_lay l n c
  refine⟨?_,Nat.max_le.mpr ⟨a.2,b.2⟩⟩
  show(_&&_)=true
  rw[a.1];exact b.1
end
theorem rc(a b:String):(KR a==KR b)=(a==b):=by rw[P5,beq_iff_eq,beq_iff_eq,(propext ⟨ct _ _,λe=>by rw[e]⟩:(KR a=KR b)=(a=b))]
mutual
theorem nO:∀(a:V) (n:Nat) (b:V),a.hi n=true->b.hi n=true->Nl a.toD b.toD=a.same b
 |.none,n,b,h,k=>by cases b<;>first |rfl |exact dQ k (gb _ _ _) |exact dQ k (gX _ _) |exact dQ k (hX _ _)
 |.bool x,n,b,h,k=>by cases b<;>first |rfl |exact dQ k (gb _ _ _) |exact dQ k (gX _ _) |exact dQ k (hX _ _)
 |.int x,n,b,h,k=>by cases b<;>first |rfl |exact dQ k (gb _ _ _) |exact dQ k (gX _ _) |exact dQ k (hX _ _)
 |.str x,n,b,h,k=>by cases b<;>first |rfl |exact rc _ _ |exact dQ k (gb _ _ _) |exact dQ k (gX _ _) |exact dQ k (hX _ _)
 |.aA xs,n,b,h,k=>by
  obtain⟨m,rfl,h⟩:=rE h
  cases b with
  |aA ys=>exact k6 xs m ys h k
  |_=>first |rfl |cases k
 |.fl xs,n,b,h,k=>by
  obtain⟨m,rfl,h⟩:=q2 h
  cases b with
  |fl ys=>exact k6 xs m ys h k
  |_=>first |rfl |cases k
 |.eQ _ _,n,b,h,k=>dQ h (gb _ _ _)
 |.ref _,n,b,h,k=>dQ h (gX _ _)
 |.yC _,n,b,h,k=>dQ h (hX _ _)
theorem k6:∀(a:List V) (n:Nat) (b:List V),a.all (V.hi n)=true->b.all (V.hi n)=true->Ot (V.toDs a) (V.toDs b)=V.kz a b
 |[],n,b,h,k=>by cases b<;>rfl
 |x::xs,n,[],h,k=>rfl
 |x::xs,n,y::ys,h,k=>by
  have h:=all_cons h;have k:=all_cons k
  show(Nl x.toD y.toD&&Ot (V.toDs xs) (V.toDs ys))=(V.same x y&&V.kz xs ys)
  rw[nO x n y h.1 k.1,k6 xs n ys h.2 k.2]
end
section
variable {h:Heap}
mutual
theorem aJ.fk:∀(v:V) (n:Nat) (x:KV),v.hi n=true->aJ κ H ad h v x->∃as,TQ h x v.toD as
 |.none,n,x,_,e=>by obtain rfl:x=.none:=e;exact⟨_,.none⟩
 |.bool b,n,x,_,e=>by obtain rfl:x=.bool b:=e;exact⟨_,.bool _⟩
 |.int b,n,x,_,e=>by obtain⟨t,rfl⟩:=e;exact⟨_,.int _ _⟩
 |.str b,n,x,_,e=>by obtain⟨t,rfl⟩:=e;exact⟨_,.str _ _⟩
 |.aA l,n,x,k,e=>by
  obtain⟨m,rfl,k⟩:=rE k
  obtain⟨a,xs,m,rfl,_,g,_,f⟩:=e
  obtain⟨as,r⟩:=aF.fk l _ _ k f
  exact⟨_,.tuple g rfl rfl r⟩
 |.fl l,n,x,k,e=>by
  obtain⟨m,rfl,k⟩:=q2 k
  obtain⟨a,xs,m,rfl,_,g,_,f⟩:=e
  obtain⟨as,r⟩:=aF.fk l _ _ k f
  exact⟨_,.list g rfl rfl r⟩
 |.eQ _ _,n,x,k,_=>dQ k (gb _ _ _)
 |.ref _,n,x,k,_=>dQ k (gX _ _)
 |.yC _,n,x,k,_=>dQ k (hX _ _)
theorem aF.fk:∀(l:List V) (n:Nat) (xs:List KV),l.all (V.hi n)=true->aF κ H ad h l xs->∃as,ReadsAll h xs (V.toDs l) as
 |[],n,xs,_,e=>by obtain rfl:xs=[]:=e;exact⟨_,.nil⟩
 |v::l,n,xs,k,e=>by
  have k:=all_cons k
  obtain⟨x,r,rfl,E,c⟩:=e
  obtain⟨as,R⟩:=aJ.fk v n x k.1 E
  obtain⟨bs,B⟩:=aF.fk l n r k.2 c
  exact⟨_,.cons R B⟩
end
theorem Cg{r:cq}:(∃xs,H.o r=U (.list xs)/\res H (.ref r)=.fl xs)\/res H (.ref r)=.ref r:=by
 induction e:(H.o r).bind Obj.ip with
 |none=>exact .inr (by refine(?_ :(match(H.o r).bind Obj.ip with |some xs=>V.fl xs |.none=>V.ref r)=_);exact Z e rfl)
 |some xs=>obtain⟨o,E,a⟩:=bG e;exact .inl ⟨xs,Z E (Z (vK a) rfl),by refine(?_ :(match(H.o r).bind Obj.ip with |some xs=>V.fl xs |.none=>V.ref r)=_);exact Z e rfl⟩
theorem qH(R:bg κ H ad s)(k:(res H v).hi n=true)(e:aJ κ H ad s.heap v x):∃as,TQ s.heap x (res H v).toD as:=by
 cases v with
 |ref r=>
  rcases Cg (H:=H) (r:=r) with⟨xs,h,E⟩ |E
  ·rw[E] at k⊢
   obtain⟨m,rfl,k⟩:=q2 k;obtain⟨rfl,_⟩:=e;obtain⟨vs,m,g,_,f⟩:=R.obj _ _ h;obtain⟨as,a⟩:=f.fk _ _ _ k;exact⟨_,.list g rfl rfl a⟩
  ·rw[E] at k;exact dQ k (gX _ _)
 |_=>exact e.fk _ n _ k
theorem jk{v:V}(k:v.hi 8=true):shaped v.toD=true:=by have:=toD_lay v 8 k;simp only[shaped,LL,decide_eq_true_eq];exact⟨this.1,bM (kS _) 0x740413711383 rfl this.2⟩
end
section
variable {A:Around}
theorem z7{t:Bool}(h:eqv H a b=U t):(res H a).hi 8=true/\(res H b).hi 8=true/\t=(res H a).same (res H b):=by
 have h:(if((res H a).hi 8&&(res H b).hi 8)=true then U ((res H a).same (res H b)) else KT)=U t:=h;by_cases k:((res H a).hi 8&&(res H b).hi 8)=true
 ·replace h:=(if_pos k)▸h
  (replace h:=KP h;subst h)
  obtain⟨K,c⟩:=bu k;exact⟨K,c,rfl⟩
 ·replace h:=(if_neg k)▸h;exact al h
theorem z6{xs:List V}{k:V}{t:Bool}{x:KV}{tag:Bool}(o:ci d A)(R:bg κ H ad s){vs:Array KV}{a:Ln}{n:Nat}
  (g:s.heap.get? a=U {cls:=.type (if tag then "list" else "tuple"),data:=.seq vs n})(f:aF κ H ad s.heap xs vs.toList)(e:aJ κ H ad s.heap k x)(h:kx xs k=U t){Q:KV->Le->Prop}:
  (Q (.bool t) s->K7 (Lh κ.prog κ.w) A (N3 .In x (.ref a)) Q E s)/\(Q (.bool (!t)) s->K7 (Lh κ.prog κ.w) A (N3 .NotIn x (.ref a)) Q E s):=by
 have h:(if(xs.all (V.hi 7)&&k.hi 7)=true then U (xs.any λy=>y.same k) else KT)=U t:=h;by_cases c:(xs.all (V.hi 7)&&k.hi 7)=true
 ·replace h:=(if_pos c)▸h
  refine ay (bu c) λC m=>?_
  (replace h:=KP h;subst h)
  obtain⟨as,r⟩:=f.fk _ 7 _ C;obtain⟨bs,b⟩:=e.fk _ 7 _ m;have L:=toDs_lay xs 7 C;have i:=toD_lay k 7 m;have u:A.units+1+min (N' (V.toDs xs)) k.toD.depth<Oh:=by have:=o.units;have:Oh=9900:=rfl;lia
  have q:∀l:List V,l.all (V.hi 7)=true->((V.toDs l).any λy=>Nl y k.toD)=l.any λy=>y.same k:=by
   intro l;induction l with
   |nil=>intro _;rfl
   |cons v l I=>intro j;have j:=all_cons j;exact((Z (I j.2) (Z (nO v 7 k j.1 m) rfl)):(Nl v.toD k.toD||(V.toDs l).any λy=>Nl y k.toD)=(v.same k||l.any λy=>y.same k))
  refine hR (q xs C) ?_;induction tag with
  |true=>exact⟨in_list_reads (.list g rfl rfl r) b L.1 i.1 u,notIn_list_reads (.list g rfl rfl r) b L.1 i.1 u⟩
  |false=>exact⟨in_tuple_reads (.tuple g rfl rfl r) b L.1 i.1 u,notIn_tuple_reads (.tuple g rfl rfl r) b L.1 i.1 u⟩
 ·replace h:=(if_neg c)▸h;exact al h
theorem e7(K:fG κ G)(R:bg κ H ad s){r:cq}(h:(H.o r).isSome=true):(ad.f r==NX)=false:=by simp only[beq_eq_false_iff_ne];intro e;have:=R.new r h;rw[e] at this;have k:=K.Jq;rw[this] at k;exact aK k
theorem bx{r:cq}{o:Obj}(h:H.o r=U o):(H.o r).isSome=true:=by refine Z h ?_;rfl
theorem Bz{K:List Int}(e:df k=U K):k=.aA (ae K):=by obtain⟨l,h,H⟩:=bG e;exact Z (n7 h) (Z (i9 H) rfl)
theorem kL{K:List Int}(e:df k=U K)(q:aJ κ H ad h k x):∃a,x=.ref a/\jx H ad a/\(tK κ.prog κ.w).is h K a:=by rw[Bz e] at q;obtain⟨a,xs,n,rfl,i,g,z,f⟩:=q;exact⟨a,rfl,i,xs,n,g,z,aF.ints.mp f⟩
theorem CH{c:Prop}[Decidable c]{y:bQ}(h:(if c then KT else U x)=U y):x=y:=by
 by_cases d:c;·rw[if_pos d] at h;exact al h
 ·rw[if_neg d] at h;exact KP h
theorem zE{c:Prop}[Decidable c]{y:bQ}(h:(if c then U x else KT)=U y):x=y:=by
 by_cases d:c;·rw[if_pos d] at h;exact KP h
 ·rw[if_neg d] at h;exact al h
theorem B5{d:V}{k:bQ}(e:wq op l i d=U k):∃x,k=⟨op,l,i,x⟩/\d=x.toV:=by
 cases d with
 |int j=>exact⟨.int j,(CH e).symm,rfl⟩
 |aA w=>obtain⟨m,h,H⟩:=bG e;exact⟨.gJ m,(zE H).symm,congrArg V.aA (i9 h)⟩
 |_=>exact al e
theorem FN{K:bQ}(e:gC k=U K):k=K.toV:=by obtain⟨q,a,e⟩:=bG e;obtain⟨op,b,e⟩:=bG e;obtain⟨l,c,e⟩:=bG e;obtain⟨i,d,e⟩:=bG e;obtain⟨t,h,H⟩:=bG a;refine aD (B5 e) λx E D=>?_;clear e;clear e;subst E;exact(n7 h).trans (congrArg V.aA ((C1 H).trans (by simp only[rx b,Bz c,c1 d,D]:[q.1,q.2.1,q.2.2.1,q.2.2.2]=[V.str op,.aA (ae l),.int i,x.toV])))
theorem wr{K:bQ}(e:gC k=U K)(q:aJ κ H ad h k x):k=K.toV/\∃a,x=.ref a/\(nK κ.prog κ.w).is h K a:=by have b:=FN e;clear e;subst b;refine aD q.nk λa E i=>?_;clear q;subst E;exact⟨rfl,a,rfl,i⟩
theorem hD{K:Type}[DecidableEq K]{R:V->KV->Prop}{P:Ln->Prop}{es:List (K×V)}{s:List (K×Ln×KV)}(h:eS (λe g=>e.1=g.1/\P g.2.1/\R e.2 g.2.2) es s)(k:K):
  (bc es k=KT/\Pw s k=KT)\/∃v a x,bc es k=U v/\Pw s k=U (a,x)/\R v x:=by
 induction h with
 |nil=>exact .inl ⟨rfl,rfl⟩
 |@cons p q l r H _ i=>
  obtain⟨a,v⟩:=p;obtain⟨b,y,x⟩:=q;simp only at H;by_cases c:a=k
  ·clear i;subst c
   refine .inr ⟨v,y,x,by simp[n4,hu],?_,H.2.2⟩;simp[Pw,H.1]
  ·simpa only[n4,hu,c,if_false,Pw,List.find?_cons,decide_eq_false (λe=>c (H.1.trans e):¬b=k)] using i
structure BM(κ:ds)(A:NO)(E:KV->Le->Prop)(s:Le)(x y:KV)(t:Bool):Prop where
 i:∀{Q:KV->Le->Prop},(∀tk,Q (.bool t) {s with toks:=tk})->K7 (Lh κ.prog κ.w) A (N3 .In x y) Q E s
 n:∀{Q:KV->Le->Prop},(∀tk,Q (.bool !t) {s with toks:=tk})->K7 (Lh κ.prog κ.w) A (N3 .NotIn x y) Q E s
theorem q4(b:ci d A)(R:bg κ H ad s){tag:Bool}{t:Bool}{a:Ln}(g:s.heap.get? a=U {cls:=.type (if tag then "list" else "tuple"),data:=.seq vs n})(f:aF κ H ad s.heap xs vs.toList)
  (e:aJ κ H ad s.heap k x)(h:kx xs k=U t):BM κ A E s x (.ref a) t:=
 ⟨λq=>(z6 (tag:=tag) b R g f e h).1 (q s.toks),λq=>(z6 (tag:=tag) b R g f e h).2 (q s.toks)⟩
theorem EM(K:fG κ G)(R:bg κ H ad s){r:cq}{tk:Nat}(h:H.o r=U (.dI es)):BM κ A E s (.int i tk) (.ref (ad.f r)) (bc es i).isSome:=by
 obtain⟨k,D,f⟩:=R.obj _ _ h;have e:(Ny k i).isSome=(bc es i).isSome:=by
  refine K4 (gh (f:=id) (λ_ _ e=>e) f i) (λa=>ay a λz c=>?_) λb=>cR b λv x z c _=>?_;·refine Z z (Z ((c:Ny k i=KT)) ?_);rfl
  ·refine Z z (Z ((c:Ny k i=U x)) ?_);rfl
 exact⟨λq=>wpAny_in_of (NF _ _ _ _) (e7 K R (bx h)) D.mapOf (Z e (q _)),
  λq=>wpAny_notIn_of (NF _ _ _ _) (e7 K R (bx h)) D.mapOf (Z e (q _))⟩
theorem F7(K:fG κ G)(l:ci d A)(R:bg κ H ad s){r:cq}(I:(tK κ.prog κ.w).is s.heap i j)(c:H.o r=U (.dP es)):BM κ A E s (.ref j) (.ref (ad.f r)) (bc es i).isSome:=by
 obtain⟨k,D,f⟩:=R.obj _ _ c;have h:A.units+1<Oh:=by have:=l.units;have:Oh=9900:=rfl;lia
 have e:(Pw k i).isSome=(bc es i).isSome:=by
  refine K4 (hD f i) (λa=>ay a λz g=>?_) λb=>rh b λv _ x z g _=>?_;·refine Z z (Z g ?_);rfl
  ·refine Z z (Z g ?_);rfl
 exact⟨λq=>wpAny_in_heap (i4 h) I (e7 K R (bx c)) D (Z e (q _)),
  λq=>wpAny_notIn_heap (i4 h) I (e7 K R (bx c)) D (Z e (q _))⟩
theorem Dn(K:fG κ G)(j:ci d A)(R:bg κ H ad s){c:V}{t:Bool}(h:dK H k c=U t)(e:aJ κ H ad s.heap k x)(C:aJ κ H ad s.heap c y):BM κ A E s x y t:=by
 cases c with
 |fl xs=>obtain⟨a,vs,n,rfl,_,g,_,f⟩:=C;exact q4 (tag:=true) j R g f e h
 |aA xs=>obtain⟨a,vs,n,rfl,_,g,_,f⟩:=C;exact q4 (tag:=false) j R g f e h
 |ref r=>
  obtain⟨rfl,_⟩:=C;obtain⟨o,l,h⟩:=bG h;induction o with
  |list xs=>obtain⟨vs,n,g,_,f⟩:=R.obj _ _ l;exact q4 (tag:=true) j R g f e h
  |dI es=>obtain⟨i,I,rfl⟩:=fz h;rw[c1 I] at e;obtain⟨tk,rfl⟩:=e;exact EM K R l
  |dP es=>obtain⟨i,m,rfl⟩:=fz h;refine gw (kL m e) λp b _ I=>?_;clear e;subst b;exact F7 K j R I l
  |dS _=>exact al h
  |dN _=>exact al h
 |_=>exact al h
theorem mQ{c:Type}{f:Int->Int->c}{t:c}(e:no f a b=U t)(E:aJ κ H ad h a x)(B:aJ κ H ad h b y):∃i j u v,x=.int i u/\y=.int j v/\t=f i j:=by obtain⟨i,d,e⟩:=bG e;obtain⟨j,g,e⟩:=fz e;rw[c1 d] at E;rw[c1 g] at B;obtain⟨u,rfl⟩:=E;obtain⟨v,rfl⟩:=B;exact⟨i,j,u,v,rfl,rfl,e.symm⟩
theorem CJ{a:V}{t:Bool}(e:a.Df b=U t)(E:aJ κ H ad h a x)(B:aJ κ H ad h b y):plainIs x y=true/\(x==y)=t:=by
 cases b with
 |none=>
  obtain rfl:y=.none:=B;cases a with
  |none=>obtain rfl:x=.none:=E;(replace e:=KP e;subst e);exact⟨rfl,rfl⟩
  |bool b=>obtain rfl:x=.bool b:=E;(replace e:=KP e;subst e);exact⟨rfl,rfl⟩
  |int i=>obtain⟨_,rfl⟩:=E;(replace e:=KP e;subst e);exact⟨rfl,rfl⟩
  |str i=>exact al e
  |aA l=>obtain⟨_,_,_,rfl,_⟩:=E;(replace e:=KP e;subst e);exact⟨rfl,rfl⟩
  |fl l=>obtain⟨_,_,_,rfl,_⟩:=E;(replace e:=KP e;subst e);exact⟨rfl,rfl⟩
  |eQ C r=>obtain⟨_,_,rfl,_⟩:=E;(replace e:=KP e;subst e);exact⟨rfl,rfl⟩
  |ref r=>obtain⟨rfl,_⟩:=E;(replace e:=KP e;subst e);exact⟨rfl,rfl⟩
  |yC i=>exact al e
 |_=>exact al e
theorem wX{a:V}{t:Bool}(e:a.Df b=U t)(f:aJ κ H ad h a x)(B:aJ κ H ad h b y){Q:KV->Le->Prop}:
  (Q (.bool t) s->K7 (Lh κ.prog κ.w) A (N3 .Is x y) Q E s)/\(Q (.bool !t) s->K7 (Lh κ.prog κ.w) A (N3 .IsNot x y) Q E s):=by
 exact ay (CJ e f B) λc d=>⟨λq=>wpAny_is_plain c (Z d q),λq=>wpAny_isNot_plain c (Z d q)⟩
theorem z5(k:fG κ G)(g:ci d A)(R:bg κ H ad s){t:Bool}(h:gI H op a b=U t)(e:aJ κ H ad s.heap a x)(B:aJ κ H ad s.heap b y)
  {Q:KV->Le->Prop}(q:∀tk,Q (.bool t) {s with toks:=tk}):K7 (Lh κ.prog κ.w) A (N3 op.py x y) Q E s:=by
 have c:∀{t:Bool},eqv H a b=U t->∀{Q:KV->Le->Prop},(Q (.bool t) s->K7 (Lh κ.prog κ.w) A (N3 .Eq x y) Q E s)/\(Q (.bool !t) s->K7 (Lh κ.prog κ.w) A (N3 .NotEq x y) Q E s):=by
  intro t h Q;have l:A.units+64<Oh:=by have:=g.units;have:Oh=9900:=rfl;lia
  refine cH (z7 h) λp1 p f=>?_;clear h;subst f;obtain⟨as,r⟩:=qH R p1 e;obtain⟨bs,m⟩:=qH R p B;exact hR (nO _ 8 _ p1 p) (⟨compareEq_shaped r m (jk p1) (jk p) l,compareNe_shaped r m (jk p1) (jk p) l⟩)
 induction op with
 |eq=>exact(c h).1 (q s.toks)
 |ne=>obtain⟨T,h',rfl⟩:=fz h;exact(c h').2 (q s.toks)
 |lt=>clear c;obtain⟨i,j,u,v,rfl,rfl,rfl⟩:=mQ h e B;exact PySem.P.lt_int (q s.toks)
 |le=>clear c;obtain⟨i,j,u,v,rfl,rfl,rfl⟩:=mQ h e B;exact PySem.P.le_int (q s.toks)
 |gt=>clear c;obtain⟨i,j,u,v,rfl,rfl,rfl⟩:=mQ h e B;exact PySem.P.gt_int (q s.toks)
 |ge=>clear c;obtain⟨i,j,u,v,rfl,rfl,rfl⟩:=mQ h e B;exact PySem.P.ge_int (q s.toks)
 |dK=>exact(Dn k g R h e B).i q
 |eY=>obtain⟨T,h',rfl⟩:=fz h;exact(Dn k g R h' e B).n q
 |is=>exact(wX h e B).1 (q s.toks)
 |oM=>obtain⟨T,h',rfl⟩:=fz h;exact(wX h' e B).2 (q s.toks)
theorem qx(m:Ex)(nm:Nm)(e:K0)(op:CmpOp):T3 op (m.py nm e)=false:=by
 cases m with
 |aE c=>cases c with
  |int i=>refine(?_ :T3 op (if i<0 then _ else _)=false);split<;>rfl
  |_=>rfl
 |bi b=>induction b<;>rfl
 |_=>rfl
theorem ui(I:SE κ G C d a)(F:SE κ G C d b)(K:a.ok nm gl l=true)(L:b.ok nm gl r=true){env:Py}{Q:V->V->Hp->Prop}(z:ci d A)(V:EnvR κ nm gl env J H ad s.heap)
  (R:bg κ H ad s)(W:a.wp G C J (λx h=>b.wp G C J (λy h=>Q x y h) h) H){T:KV->KV->S7 M}{P:M->Le->Prop}{D:Ad}{e:Hp}{f:Heap}(o:Step dD D e f ad H s.heap)
  (k:∀ad' H' s' v w x y,Q v w H'->aJ κ H' ad' s'.heap v x->aJ κ H' ad' s'.heap w y->bg κ H' ad' s'->Step dD D e f ad' H' s'.heap->K7 (Lh κ.prog κ.w) A (T x y) P E s'):
  K7 (Lh κ.prog κ.w) A (NN (a.py nm l) env) (λx S=>K7 (Lh κ.prog κ.w) A (NN (b.py nm r) env) (λy g=>K7 (Lh κ.prog κ.w) A (T x y) P E g) E S) E s:=by
 refine Lc (I l nm gl K A E env J _ H ad s z V R W) (λx S p=>?_) λ_ _ y=>y;obtain⟨n,t,v,q,X,c,i⟩:=p;refine Lc (F r nm gl L A E env J _ t n S z (V.step i c.au) c q) (λy g p=>?_) λ_ _ y=>y;obtain⟨u,B,w,q,N,j,m⟩:=p;exact k _ _ _ _ _ _ _ q (X.step m j.au) N j ((o.trans i R.au).trans m c.au)
theorem xf(k:fG κ G)(i:SE κ G C d a)(I:SE κ G C d b)(op:Cm):SE κ G C d (.bV op a b):=by intro e nm gl c A E env J Q H ad s h V R W;refine ay (bu c) λf g=>wpAny_Compare1 (ui i I f g h V R W Step.refl λad' H' s' v w x y q X j r S=>?_) (qx _ _ _ op.py);obtain⟨t,T,q⟩:=aQ q;exact z5 k h r T X j λtk=>⟨ad',H',_,q,rfl,r.toks tk,S⟩
theorem vQ(k:fG κ G)(i:SE κ G C d a)(I:SE κ G C d b)(op:Cm):ST κ G C d (.bV op a b):=by intro e nm gl c A E env J Q H ad s h V R W;refine ay (bu c) λf g=>wpAny_isTrue_Compare1 (ui i I f g h V R W (T:=λx y=>N3 op.py x y) Step.refl λad' H' s' v w x y q X j r S=>?_) (qx _ _ _ op.py);obtain⟨t,l,q⟩:=aQ q;exact z5 k h r l X j λtk=>SN ⟨ad',H',q,r.toks tk,S⟩
theorem uR(i:ST κ G C d a):ST κ G C d (.not a):=by intro e nm gl h A E env J Q H ad s f V R w;refine wpAny_isTrue_Not (Lc (i _ nm gl h A E env J _ H ad s f V R w) (λb c p=>?_) λ_ _ y=>y);exact let ⟨a,b,q,R,S⟩:=p;⟨a,b,q,R,S⟩
theorem zM{P Q:Prop}(h:if false=true then P else Q):Q:=h
theorem xn{c:Ex}(i:ST κ G C d c)(I:SE κ G C d a)(B:SE κ G C d b):SE κ G C d (.cG c a b):=by
 intro e nm gl j A E env J Q H ad s g V R w;refine og j λk l m=>wpAny_IfExp (Lc (i _ nm gl k A E env J _ H ad s g V R w) (λb f p=>?_) λ_ _ y=>y);obtain⟨D,h,q,r,S⟩:=p;induction b with
 |true=>exact Lc (I _ nm gl l A E env J _ h D f g (V.step S r.au) r q) (λ_ _ p=>p.trans S r.au) λ_ _ y=>y
 |false=>exact Lc (B _ nm gl m A E env J _ h D f g (V.step S r.au) r (zM q)) (λ_ _ p=>p.trans S r.au) λ_ _ y=>y
def J3(κ:ds)(G:String->Option V)(C:Ctx)(d:Nat)(M:List Ex):Prop:=∀m∈M,ST κ G C d m
theorem u4:∀{es:List Ex} (i:J3 κ G C d es),ST κ G C d (.and es):=by
 intro es i e nm gl f A E env J Q H ad s g V R w;refine Sh (?_ :K7 _ A (allTrue .And (Ex.cP nm es (cu e)) env) _ E s);change Ex.hN nm gl es (cu e)=true at f;change Ex.y3 G C es J Q H at w;generalize cu e=xs at f⊢;induction es generalizing xs Q H ad s with
 |nil=>exact KY ⟨ad,H,w,R,Step.refl⟩
 |cons m es I=>
  refine ay (bu f) λj k=>((KN (Lc (i m KX _ nm gl j A E env J _ H ad s g V R w) (λb c p=>?_) λ_ _ y=>y)):K7 _ A (QO (m.py nm (oQ 0 xs)) env (NN (m.py nm (oQ 0 xs)) env)>>=_) _ E s);obtain⟨a,h,q,r,S⟩:=p;induction b with
  |true=>exact Lc (I (λm M=>i m (K1 _ M)) Q h a c (V.step S r.au) r q _ k) (λ_ _ p=>jv.trans S r.au p) λ_ _ y=>y
  |false=>exact KY ⟨a,h,zM q,r,S⟩
theorem xN:∀{es:List Ex} (i:J3 κ G C d es),ST κ G C d (.or es):=by
 intro es i e nm gl f A E env J Q H ad s g V R w;refine Sh (?_ :K7 _ A (allTrue .Or (Ex.cP nm es (cu e)) env) _ E s);change Ex.hN nm gl es (cu e)=true at f;change Ex.EK G C es J Q H at w;generalize cu e=xs at f⊢;induction es generalizing xs Q H ad s with
 |nil=>exact KY ⟨ad,H,w,R,Step.refl⟩
 |cons m es I=>
  refine ay (bu f) λj k=>((KN (Lc (i m KX _ nm gl j A E env J _ H ad s g V R w) (λb c p=>?_) λ_ _ y=>y)):K7 _ A (QO (m.py nm (oQ 0 xs)) env (NN (m.py nm (oQ 0 xs)) env)>>=_) _ E s);obtain⟨a,h,q,r,S⟩:=p;induction b with
  |false=>exact Lc (I (λm M=>i m (K1 _ M)) Q h a c (V.step S r.au) r (zM q) _ k) (λ_ _ p=>jv.trans S r.au p) λ_ _ y=>y
  |true=>exact KY ⟨a,h,q,r,S⟩
theorem sy:oY κ G C d []:=λes nm gl c pos A E env J Q H ad s a V R h=>Rv ⟨ad,H,[],h,rfl,R,Step.refl⟩
theorem dt(m:Ex)(nm:Nm)(e:K0)(r:List K0)(env:Py):Mu (m.py nm e::r) env=(false,NN (m.py nm e) env)::Mu r env:=by
 cases m with
 |aE c=>cases c with
  |int i=>refine(?_ :Mu ((if i<0 then _ else _)::r) env=(false,NN (if i<0 then _ else _) env)::_);split<;>rfl
  |_=>rfl
 |bi b=>induction b<;>rfl
 |_=>rfl
theorem ra(I:SE κ G C d m)(i:oY κ G C d M):oY κ G C d (m::M):=by intro es nm gl l pos A E env J Q H ad s j V R w;refine ay (bu l) λn o=>Qe (Lc (I _ nm gl n A E env J _ H ad s j V R w) (λx e p=>?_) λ_ _ y=>y) (dt _ _ _ _ env);obtain⟨D,h,v,q,X,r,S⟩:=p;refine Lc (i _ nm gl o pos A E env J _ h D e j (V.step S r.au) r q) (λxs k p=>?_) λ_ _ y=>y;obtain⟨c,f,vs,q,g,a,b⟩:=p;exact⟨c,f,v::vs,q,⟨x,xs,rfl,X.step b a.au,g⟩,a,S.trans b r.au⟩
end
variable {Uo:Hp} {Uq:Ad} {Ul:Heap} {D:Addr}
section
variable {A:Around}
theorem n0(R:bg κ H (ad.a9 D) s)(n:¬ad.z D)(h:κ.base.get? D=KT)(f:ij κ H (ad.a9 D) s.heap D x)(S:Step X Uq Uo Ul ad H s.heap)(d:Ul.get? D=KT){Q:PV}{k:Nat}{t:Int}
  (q:Q (.ref ⟨k,t,H.n⟩) (H.new k t x)):a' κ X Uq Uo Ul Q (.ref D) s:=by
 refine⟨ad.aH ⟨k,t,H.n⟩ D,H.new k t x,_,q,?_,R.aH n h f,S.aH R.au d⟩;simp[aJ,Ad.aH,Hp.new]
theorem pV(R:bg κ H (ad.a9 D) s)(N:¬ad.z D)(h:κ.base.get? D=KT)(g:s.heap.get? D=U {cls:=.type "list",data:=.seq vs n})(z:vs.size<=LV)
  (f:aF κ H (ad.a9 D) s.heap xs vs.toList)(S:Step X Uq Uo Ul ad H s.heap)(d:Ul.get? D=KT){Q:PV}(q:newList xs Q H):a' κ X Uq Uo Ul Q (.ref D) s:=by
 unfold ai.newList at q;refine K4 q.2 (λq=>?_) λr=>g1 r λk t q=>n0 (x:=.list xs) R N h ⟨vs,n,g,z,f⟩ S d q;·exact⟨ad,H,_,q,⟨D,vs,n,rfl,⟨R.zf D (.inl rfl),N⟩,g,z,f.aL fq⟩,R.w4,S⟩
theorem ef(R:bg κ H ad s)(h:s.heap.get? D=KT):κ.base.get? D=KT:=by
 induction e:κ.base.get? D with
 |none=>rfl
 |some o=>have:=R.base _ _ e;replace this:=h▸this;exact al this
theorem f'(R:bg κ H ad s)(h:s.heap.get? D=KT):¬ad.z D:=λq=>by refine cY (R.lD D q) λo e=>?_;rw[h] at e;exact al e
theorem ej(R:bg κ H ad s)(k:∀b o,s.heap.get? b=U o->s'.heap.get? b=U o)(G:s'.gens=s.gens)(a:s'.os=s.os)(h:s.heap.get? D=KT){xs:List V}{vs:Array KV}{n:Nat}
  (g:s'.heap.get? D=U {cls:=.type "list",data:=.seq vs n})(z:vs.size<=LV)(f:aF κ H ad s.heap xs vs.toList){Q:PV}(q:newList xs Q H):a' κ X ad H s.heap Q (.ref D) s':=
 pV (R.a9 k G a h ⟨_,g⟩) (f' R h) (ef R h) g z (f.aL (cy k h)) (R.cT k) h q
theorem nR(R:bg κ H ad s)(k:∀b o,s.heap.get? b=U o->s'.heap.get? b=U o)(g:s'.gens=s.gens)(a:s'.os=s.os)(h:s.heap.get? D=KT)(d:∃o,s'.heap.get? D=U o)
  (f:ij κ H (ad.a9 D) s'.heap D x){Q:PV}{K:Nat}{t:Int}(q:Q (.ref ⟨K,t,H.n⟩) (H.new K t x)):a' κ X ad H s.heap Q (.ref D) s':=
 n0 (R.a9 k g a h d) (f' R h) (ef R h) f (R.cT k) h q
theorem bO(h:Heap)(o:Lg):∀b x,h.get? b=U x->(h.push o).get? b=U x:=λ_ _ e=>K5 o e
theorem aW(h:Heap){a:Ln}(z:h.objs.size<=a):h.get? a=KT:=by
 induction e:h.get? a with
 |none=>rfl
 |some o=>exact absurd (Lv e) (Pz.mpr z)
theorem qp(R:bg κ H ad s){vs:Array KV}(z:vs.size<=LV)(f:aF κ H ad s.heap xs vs.toList)(q:newList xs Q H):
  a' κ X ad H s.heap Q (.ref s.heap.objs.size) {s with heap:=s.heap.push {cls:=.type "list",data:=.seq vs}}:=
 ej (s':={s with heap:=s.heap.push {cls:=.type "list",data:=.seq vs}}) R (bO _ _) rfl rfl (aW _ (K9 _)) (La _ rfl) z f q
theorem na(R:bg κ H ad s)(k:∀b o,s.heap.get? b=U o->s'.heap.get? b=U o)(G:s'.gens=s.gens)(a:s'.os=s.os)(h:s.heap.get? D=KT){xs:List V}{vs:Array KV}{n:Nat}
  (g:s'.heap.get? D=U {cls:=.type "tuple",data:=.seq vs n})(z:vs.size<=LV)(f:aF κ H ad s.heap xs vs.toList){Q:PV}(q:Q (.aA xs) H):a' κ X ad H s.heap Q (.ref D) s':=by
 have r:=R.a9 k G a h ⟨_,g⟩;exact⟨ad,H,_,q,⟨D,vs,n,rfl,⟨r.zf D (.inl rfl),f' R h⟩,g,z,(f.aL (cy k h)).aL fq⟩,r.w4,R.cT k⟩
theorem nM(R:bg κ H ad s){vs:Array KV}(z:vs.size<=LV)(f:aF κ H ad s.heap xs vs.toList){Q:PV}(q:Q (.aA xs) H):
  a' κ X ad H s.heap Q (.ref s.heap.objs.size) {s with heap:=s.heap.push {cls:=.type "tuple",data:=.seq vs}}:=
 na (s':={s with heap:=s.heap.push {cls:=.type "tuple",data:=.seq vs}}) R (bO _ _) rfl rfl (aW _ (K9 _)) (La _ rfl) z f q
theorem dv{n:Nat}(h:n<=aN):n<=LV:=by have:LV=16777216:=N2;unfold aN at h;exact bM (gF _ _) 0x78137f42405130100000068 rfl h (K2 this.symm)
theorem x2(i:oY κ G C d es):SE κ G C d (.aA es):=by intro e nm gl c A E env J Q H ad s f V R w;refine wpAny_Tuple (Lc (i _ nm gl c _ A E env J _ H ad s f V R w) (λxs b p=>?_) λ_ _ y=>y);obtain⟨a,h,vs,q,x,r,S⟩:=p;have z:=dv (x.length▸q.1);exact⟨z,a'.trans S r.au (nM r (by simpa using z) (by simpa using x) q.2)⟩
theorem ur(i:oY κ G C d es):SE κ G C d (.list es):=by intro e nm gl c A E env J Q H ad s f V R w;refine wpAny_List (Lc (i _ nm gl c _ A E env J _ H ad s f V R w) (λxs b p=>?_) λ_ _ y=>y);obtain⟨a,h,vs,q,x,r,S⟩:=p;have z:=dv (x.length▸gT q);exact⟨z,a'.trans S r.au (qp r (by simpa using z) (by simpa using x) q)⟩
inductive HF(h:Heap)(P:List KV->Prop)(x:KV):Prop
 |mk (a:Ln) (vs:Array KV) (n:Nat) (e:x=.ref a) (g:h.get? a=U {cls:=.type "list",data:=.seq vs n}) (z:vs.size<=LV) (r:P vs.toList)
theorem da{xs:List V}{c:V}(R:bg κ H ad s)(h:ca H c=U xs)(e:aJ κ H ad s.heap c x):HF s.heap (aF κ H ad s.heap xs) x:=by
 cases c with
 |fl ys=>
  (replace h:=KP h;subst h)
  obtain⟨a,vs,n,rfl,_,g,z,f⟩:=e;exact⟨a,vs,n,rfl,g,z,f⟩
 |ref r=>obtain⟨o,b,h⟩:=bG h;cases vK h;obtain⟨rfl,_⟩:=e;obtain⟨vs,n,g,z,f⟩:=R.obj _ _ b;exact⟨_,vs,n,rfl,g,z,f⟩
 |_=>exact al h
theorem ei{h:Heap}{a:Ln}(g:h.get? a=U {cls:=.type "list",data:=.seq vs n}):h.IsList a vs:=⟨_,g,rfl,n,rfl⟩
theorem kC{h:Heap}{a:Ln}(g:h.get? a=U {cls:=.type "tuple",data:=.seq vs n}):IsTup h a vs:=⟨_,g,rfl,n,rfl⟩
theorem bZ(m:Ex)(nm:Nm)(e:K0)(o i:KV):subscripted (m.py nm e) false o i=operate [o,i] (getItem o i):=by
 cases m with
 |aE c=>cases c with
  |int j=>refine(?_ :subscripted (if j<0 then _ else _) false o i=_);split<;>rfl
  |_=>rfl
 |bi b=>induction b<;>rfl
 |_=>rfl
theorem Bl{v:V}(h:jr xs i=U v):(0<=i/\xs[i.toNat]? =U v)\/(i<0/\0<=i+xs.length/\xs[(i+xs.length).toNat]? =U v):=by
 unfold jr at h;split at h;·exact .inl ⟨by assumption,h⟩
 ·split at h
  ·exact .inr ⟨by lia,by assumption,h⟩
  ·exact al h
theorem qX{v:V}{a:Ln}{c:K0}{m:Ex}{tag:Bool}(g:s.heap.get? a=U {cls:=.type (if tag then "list" else "tuple"),data:=.seq vs n})(z:vs.size<=LV)
  (f:aF κ H ad s.heap xs vs.toList)(h:jr xs i=U v){Q:KV->Le->Prop}(q:∀y,aJ κ H ad s.heap v y->Q y s):K7 (Lh κ.prog κ.w) A (T6 c (m.py nm e) (.ref a) (.int i u)) Q E s:=by
 have cQ:xs.length=vs.size:=Z f.length (Z Lq rfl);have t:vs.size<=16777216:=hR N2 z;refine K4 (Bl h) (λr=>ay r λd l=>?_) λR=>cH R λd l p=>?_
 ·refine aD (f.get l) λy o k=>?_
  have lt:i.toNat<vs.size:=hR cQ ((LU.mp l).1);have b:vs[i.toNat]? =U y:=by simpa using o
  induction tag with
  |true=>exact OA (ei g).typeIs OJ.lookup (wpAny_getItem_list (ei g) d (by omega) b (q _ k)) (bZ _ _ _ _ _)
  |false=>refine OA (kC g).typeIs SD.lookup (T7 (kC g) (by omega) (by omega) (j:=i.toNat) ?_ b (q _ k)) (bZ _ _ _ _ _);unfold seqIndex?;exact Z (if_neg (RB.mpr d)) (Z (if_pos (by simp;omega)) rfl)
 ·refine aD (f.get p) λy o k=>?_
  rw[cQ] at l p o;have b:vs[(i+vs.size).toNat]? =U y:=by simpa using o
  induction tag with
  |true=>exact OA (ei g).typeIs OJ.lookup (wpAny_getItem_list_neg (ei g) d (by omega) (by omega) b (q _ k)) (bZ _ _ _ _ _)
  |false=>refine OA (kC g).typeIs SD.lookup (T7 (kC g) (by omega) (by omega) (j:=(i+vs.size).toNat) ?_ b (q _ k)) (bZ _ _ _ _ _);unfold seqIndex?;exact Z (if_pos d) (Z (if_pos (by simp;omega)) rfl)
theorem Ep(KO:fG κ G)(Z:ci d A)(R:bg κ H ad s){c v:V}(h:lu H c k=U v)(P:aJ κ H ad s.heap c x)(K:aJ κ H ad s.heap k y){j:K0}{m:Ex}{nm:Nm}{e:K0}{Q:KV->Le->Prop}
  (q:∀z tk,aJ κ H ad s.heap v z->Q z {s with toks:=tk}):K7 (Lh κ.prog κ.w) A (T6 j (m.py nm e) x y) Q E s:=by
 have I:∀{i:Int},k.fF=U i->∃u,y=.int i u:=λ{i} e=>by replace K:=(c1 e)▸K;exact K
 have str:∀{i:String},k.xR=U i->∃u,y=.str (KR i) u:=λ{i} e=>by replace K:=(rx e)▸K;exact K
 cases c with
 |fl xs=>obtain⟨a,vs,n,rfl,_,g,z,f⟩:=P;obtain⟨i,b,h⟩:=bG h;clear str;obtain⟨u,rfl⟩:=I b;exact qX (tag:=true) g z f h λy L=>q y s.toks L
 |aA xs=>obtain⟨a,vs,n,rfl,_,g,z,f⟩:=P;obtain⟨i,b,h⟩:=bG h;clear str;obtain⟨u,rfl⟩:=I b;exact qX (tag:=false) g z f h λy L=>q y s.toks L
 |ref r=>
  obtain⟨rfl,_⟩:=P;obtain⟨o,N,h⟩:=bG h;induction o with
  |list xs=>obtain⟨i,b,h⟩:=bG h;clear str;obtain⟨u,rfl⟩:=I b;obtain⟨vs,n,g,z,f⟩:=R.obj _ _ N;exact qX (tag:=true) g z f h λy L=>q y s.toks L
  |dI es=>
   obtain⟨i,b,h⟩:=bG h;clear str;obtain⟨u,rfl⟩:=I b;obtain⟨S,D,f⟩:=R.obj _ _ N;refine K4 (gh (f:=id) (λ_ _ e=>e) f i) (λl=>ay l λw _=>?_) λp=>cR p λX x w W M=>?_;·replace h:=w▸h;exact al h
   ·replace h:=w▸h;clear w;cases h
    exact OA D.typeIs P6.lookup (S4 (NF _ _ _ _) D.mapOf W (q _ _ M)) (bZ _ _ _ _ _)
  |dS es=>
   obtain⟨i,b,h⟩:=bG h;clear I;obtain⟨u,rfl⟩:=str b;obtain⟨S,D,f⟩:=R.obj _ _ N;refine K4 (gh ct f i) (λt=>ay t λw _=>?_) λB=>cR B λX x w W M=>?_;·replace h:=w▸h;exact al h
   ·replace h:=w▸h;clear w;cases h
    exact OA D.typeIs P6.lookup (S4 (O9 _ _ _ _) D.mapOf W (q _ _ M)) (bZ _ _ _ _ _)
  |dP es=>
   obtain⟨ks,hk,h⟩:=bG h;refine gw (kL hk K) λka C _ b=>?_;clear str I;subst C;obtain⟨S,D,f⟩:=R.obj _ _ N;have T:A.units+1<Oh:=by have:=Z.units;have:Oh=9900:=rfl;lia
   refine K4 (hD f ks) (λF=>ay F λw _=>?_) λJ=>rh J λX a x w W M=>?_;·replace h:=w▸h;exact al h
   ·replace h:=w▸h;(replace h:=KP h;subst h)
    exact OA D.typeIs P6.lookup (wpAny_getItem_heap (i4 T) b D W (q _ _ M)) (bZ _ _ _ _ _)
  |dN _=>exact al h
 |_=>exact al h
theorem xP(k:fG κ G)(I:SE κ G C d e)(a:SE κ G C d i):SE κ G C d (.sub e i):=by intro l nm gl c A E env J Q H ad s h V R W;refine ay (bu c) λb f=>SF (ui I a b f h V R W Step.refl λad' H' s' v w x y q X g r S=>?_);obtain⟨u,j,q⟩:=aQ q;exact Ep k h r j X g λz tk Z=>⟨ad',H',u,q,Z,r.toks tk,S⟩
theorem s3(h:fits a):IntMulOk a b:=by refine IntMulOk.of_left (intBits_le_64 ?_ ?_)<;>have:=h.1<;>have:=h.2<;>unfold mD at* <;>lia
theorem w'(h:fits a):¬(PK a b)=true:=by
 unfold PK;simp only[LL,decide_eq_true_eq,not_and];intro _ H;have c:a.natAbs.log2<64:=by
  by_cases z:a.natAbs=0;·refine Z z ?_;decide
  ·refine iR (Nat.log2_lt z) ?_
   have:=h.1;have:=h.2;unfold mD at*;omega
 have:(if(a==0)=true then 0 else a.natAbs.log2/30+1)<=3:=by
  split;·lia
  ·omega
 exact absurd (bM (gF _ _) 0x13031311319647813833 rfl H this) (Lz 0)
theorem ko{P:Int->Int->Prop}(e:h0 a b P)(E:aJ κ H ad h a x)(B:aJ κ H ad h b y):∃i j u v,x=.int i u/\y=.int j v/\P i j:=by obtain⟨i,c,e⟩:=aQ e;obtain⟨j,d,e⟩:=aQ e;rw[c1 c] at E;rw[c1 d] at B;obtain⟨u,rfl⟩:=E;obtain⟨v,rfl⟩:=B;exact⟨i,j,u,v,rfl,rfl,e⟩
theorem AV(R:bg κ H ad s)(e:aJ κ H ad s.heap a x)(B:aJ κ H ad s.heap b y)(h:bB (ca H a) λxs=>bB (ca H b) λys=>xs.length<=aN/\ys.length<=aN/\newList (xs++ys) Q H):
  K7 (Lh κ.prog κ.w) A (TM .Add x y) (a' κ X ad H s.heap Q) E s:=by
 obtain⟨xs,d,h⟩:=aQ h;obtain⟨ys,i,j,k,c⟩:=aQ h;obtain⟨a,vs,n,rfl,g,z,f⟩:=da R d e;obtain⟨b,w,m,rfl,g',Z,F⟩:=da R i B;have l:xs.length=vs.size:=by simp only[f.length,Lq]
 have L:ys.length=w.size:=by simp only[F.length,Lq]
 have hz:vs.size+w.size<=LV:=dv (by have:=gT c;rw[KW] at this;exact bM (JN _ _ _ _ _) 0x1879137a138b131ba9 rfl (K2 l.symm) (K2 L.symm) this);exact P.add_list g g' (qp R (by simpa using hz) (by simpa using f.append F) c) hz
theorem FF(M:ci d A)(R:bg κ H ad s)(h:sQ op a b Q H)(c:aJ κ H ad s.heap a x)(B:aJ κ H ad s.heap b y):
  K7 (Lh κ.prog κ.w) A (TM op.py x y) (a' κ X ad H s.heap Q) E s:=by
 have int:∀{i:Int} {t:Nat},Q (.int i) H->a' κ X ad H s.heap Q (.int i s.toks) {s with toks:=t}:=λq=>a'.hL R q ⟨_,rfl⟩;induction op with
 |add=>
  cases a with
  |int i=>obtain⟨j,o,_,_,h⟩:=aQ h;rw[c1 o] at B;obtain⟨_,rfl⟩:=c;obtain⟨_,rfl⟩:=B;exact P.add_int (int h)
  |aA xs=>
   obtain⟨ys,J,o,D,F,K⟩:=aQ h;rw[n7 J] at B;obtain⟨a,vs,n,rfl,_,g,z,f⟩:=c;obtain⟨b,W,m,rfl,_,g',S,G⟩:=B;have L:xs.length=vs.size:=by simp only[f.length,Lq]
   have I:ys.length=W.size:=by simp only[G.length,Lq]
   have N:∀{l:List V} {vs:Array KV},l.length=vs.size->l≠[]->¬vs.isEmpty=true:=λe k q=>k (List.length_eq_zero_iff.mp (by refine Z e ?_;simpa using q));have hz:vs.size+W.size<=LV:=dv (bM (JN _ _ _ _ _) 0x1879131ba9137a138b rfl F (K2 L.symm) (K2 I.symm));exact P.add_tuple g g' (N L o) (N I D) (nM R (by simpa using hz) (by simpa using f.append G) K) hz
  |_=>exact AV R c B h
 |sub=>refine pk (ko h c B) λi j u v p r h=>?_;clear c;subst p;clear B;subst r;exact P.sub_int (int h.2.2)
 |mul=>refine pk (ko h c B) λi j u v w C h=>?_;clear c;subst w;clear B;subst C;exact P.mul_int (int h.2.2) (s3 h.1)
 |IV=>obtain⟨i,j,u,v,rfl,rfl,o,D,F⟩:=ko h c B;exact T5 (λe=>Ok o (beq_iff_eq.mp e)) (w' D) (Z (Int.fdiv_eq_ediv_of_nonneg _ (QZ o)) (int F))
 |CV=>obtain⟨i,j,u,v,rfl,rfl,o,D⟩:=ko h c B;exact T4 (λe=>Ok o (beq_iff_eq.mp e)) (Z (Int.fmod_eq_emod_of_nonneg _ (QZ o)) (int D))
theorem yo(i:SE κ G C d a)(I:SE κ G C d b)(op:Op):SE κ G C d (.hQ op a b):=by intro e nm gl c A E env J Q H ad s h V R W;exact ay (bu c) λf g=>wpAny_BinOp (ui i I f g h V R W (T:=λx y=>TM op.py x y) Step.refl λad' H' s' v w x y q X j r S=>Lc (FF h r q X j) (λ_ _ p=>a'.trans S r.au p) λ_ _ y=>y)
theorem tH{h:Heap}{l u st:KV}:(h.push {cls:=.type "slice",data:=.fields #[l,u,st]}).IsSliceOf h.objs.size l u st:=SW ..
theorem tL(K:SE κ G C d e)(L:SE κ G C d i):SE κ G C d (.gk e i):=by
 intro e' nm gl M A E env J Q H ad s B V R W;obtain⟨N,P⟩:=bu M;refine SF (Lc (K _ nm gl N A E env J _ H ad s B V R W) (λx k p=>?_) λ_ _ y=>y);obtain⟨D,l,v,q,X,c,S⟩:=p;refine wpAny_Slice ?_;simp only[T0];refine KY ?_;simp only[TZ];refine Lc (L _ nm gl P A E env J _ l D k B (V.step S c.au) c q) (λy h p=>?_) λ_ _ y=>y;obtain⟨u,F,w,q,I,r,j⟩:=p;refine KY ?_;have X:=X.step j r.au;obtain⟨xs,T,q⟩:=aQ q;obtain⟨n,hn,q1,q2,q3⟩:=aQ q;rw[c1 hn] at I;obtain⟨a,vs,m,rfl,g,z,f⟩:=da r T X;obtain⟨t,rfl⟩:=I;have g':=bO h.heap {cls:=.type "slice",data:=.fields #[.none,.int n t,.none]} _ _ g;refine OA (ei g').typeIs OJ.lookup (ops:=[_,_]) (Q' (ei g') tH .none (.int _ _) .none (by simp) ?_ z) rfl
 (refine Z ((Ro q1).symm:n=((n.toNat:Nat):Int)) ?_;rw[slicePick_upto'])
 refine a'.trans (S.trans j c.au) r.au (ej (s':=⟨(h.heap.push _).push _,_,_,_,_⟩) r (λb o e=>bO _ _ _ _ (bO _ _ _ _ e)) rfl rfl ?_ (La _ rfl) ?_ (xs:=xs.take n.toNat) ?_ q3);·exact aW _ (by simp only[MX];exact LN _)
 ·simp only[Ry,MH,Lq];exact KQ (R9 _ _) z
 ·simpa using f.take _
theorem w9(i:SE κ G C d e):SE κ G C d (.ED e):=by
 intro n nm gl j A E env J Q H ad s k V R w;refine SF (Lc (i _ nm gl j A E env J _ H ad s k V R w) (λx S p=>?_) λ_ _ y=>y);obtain⟨D,h,v,q,X,r,c⟩:=p;refine wpAny_Slice ?_;simp only[T0];refine KY (KY ?_);simp only[TZ];refine TX (PU (P.neg_int ?_));obtain⟨xs,l,q⟩:=aQ q;obtain⟨a,vs,m,rfl,g,z,f⟩:=da r l X;have g':=bO S.heap {cls:=.type "slice",data:=.fields #[.none,.none,.int (-1) (S.toks+1)]} _ _ g;refine OA (s:=⟨S.heap.push _,S.gens,S.drawn,S.toks+1+1,S.os⟩) (ei g').typeIs OJ.lookup (ops:=[_,_]) (Q' (ei g') tH .none .none (.int _ _) (by decide) ?_ z) rfl;rw[krv_pick];refine a'.trans c r.au (ej (s':=⟨(S.heap.push _).push _,_,_,_,_⟩) r (λb o e=>bO _ _ _ _ (bO _ _ _ _ e)) rfl rfl ?_ (La _ rfl) ?_ (xs:=xs.reverse) ?_ q);·exact aW _ (by rw[MX];exact LN _)
 ·simpa using z
 ·simpa using f.reverse
def hg(κ:ds)(C:Ctx)(d:Nat):Prop:=∀f vs Q H,C f vs Q H->∃fa,κ.fn f=U fa/\∀(xs:List KV) (ad:Ad) (s:Le) (A:NO) (E:KV->Le->Prop),wP d A->aF κ H ad s.heap vs xs->bg κ H ad s->
 O' (Lh κ.prog κ.w) A (.call (.ref fa) ⟨xs,[]⟩) (λr s'=>match r with |.ok (.ret v)=>a' κ dD ad H s.heap Q v s' |.ok _=>False |.error e=>E e s') s
theorem fY(nm:Nm)(pos:Qk)(env:Py):∀(M:List Ex) (es:List K0),(NY pos (Mu (Ex.cP nm M es) env)).any (·.1)=false
 |[],_=>rfl
 |m::M,es=>by refine(?_ :(NY pos (Mu (m.py nm (oQ 0 es)::Ex.cP nm M es.tail) env)).any (·.1)=false);rw[dt];exact fY nm pos env M es.tail
theorem g9(i:oY κ G C d M)(e:Ex.hN nm gl M es=true){f:KV}(h:Sv κ.K f=true)(K:fG κ G){pos:Qk}{env:Py}{Q:List V->Hp->Prop}(g:ci d A)
  (V:EnvR κ nm gl env J H ad s.heap)(R:bg κ H ad s)(w:Ex.bh G C M J Q H){first:List KV}{P:KV->Le->Prop}
  (k:∀ad' H' s' vs xs,Q vs H'->aF κ H' ad' s'.heap vs xs->bg κ H' ad' s'->Step dD ad H s.heap ad' H' s'.heap->K7 (Lh κ.prog κ.w) A (call f (first++xs)) P E s'):
  K7 (Lh κ.prog κ.w) A (P8 pos f first (NY pos (Mu (Ex.cP nm M es) env)) []) P E s:=by
 induction M using LP with
 |nil=>exact callWith_K0 (K.Ev.keeps R.base) h (k ad H s [] [] w rfl R Step.refl)
 |cons m M=>refine callWith_K (K.Ev.keeps R.base) h (Lc (i es nm gl e pos A E env J _ H ad s g V R w) (λxs b p=>?_) λ_ _ y=>y) (dt _ _ _ _ env) (fY _ _ _ _ _);obtain⟨a,c,vs,q,x,r,S⟩:=p;exact⟨K.Ev.keeps r.base,k _ _ _ _ _ q x r S⟩
theorem lF(k:fG κ G){env:Py}(V:EnvR κ nm gl env J H ad s.heap)(R:bg κ H ad s)(h:gl.contains x=true)(X:fA x=true){y:KV}(a:κ.mg x=U y){pos:Qk}{P:KV->Le->Prop}(q:P y s):
  K7 (Lh κ.prog κ.w) A (NN (.Name x pos) env) P E s:=by
 exact Oj V.kind (V.c4 _ h) (QA (Z V.v8 (k.g.keeps R.base)) a q) (hs X).1
theorem nF(k:fG κ G)(CO:hg κ C d)(i:oY κ G C d es)(f:String):SE κ G C d (.call f es):=by
 intro e nm gl c A E env J Q H ad s a V R w;refine tI c λn j x c=>?_;rw[V.gH] at n;refine aD (k.JV f n) λfa b l=>Nx (lF k V R j x l (g9 i c (k.Dy _ _ b) k a V R w λad' H' s' vs xs q X g S=>aD (CO _ _ _ _ q) λF h q=>?_));rw[b] at h
 (replace h:=KP h;subst h)
 refine Sr (Ou (q xs ad' s' A E a.c X g) λr m p=>?_);induction r with
 |error e=>exact p
 |ok f=>induction f with
  |ret v=>exact a'.trans S g.au p
  |_=>exact p
theorem uW{A:NO}{c:Ln}{vals:List KV}(h:ci d A):wP d (A.under (.builtin "type.__call__" ⟨.ref c::vals,[]⟩)):=by
 refine⟨h.handled,?_,?_⟩;·simp only[depth_under_make];have:=h.depth;lia
 ·have:(A.under (.builtin "type.__call__" ⟨.ref c::vals,[]⟩)).units=A.units+(SY "type.__call__" ⟨.ref c::vals,[]⟩).cUnits:=rfl
  refine Z this ?_;have H:(SY "type.__call__" ⟨.ref c::vals,[]⟩).cUnits=1:=rfl;have:=h.units;lia
theorem yc(y:fG κ G)(CO:hg κ C d)(W:oY κ G C d es)(K:String):SE κ G C d (.new K es):=by
 intro e nm gl L A E env J Q H ad s N V R Z;refine tI L λhK aa hx L=>eB (y.EO K hK) λc fa u F=>cH (y.Ka _ _ u) λac g2 g3=>?_;obtain⟨i1,i2⟩:=y.IJ _ _ _ u F;refine Nx (lF y V R aa hx ac (g9 W L g2 y N V R Z λad' H' s' vs xs q rx j S=>g1 q λk t q=>aD (CO _ _ _ _ q) λaf a q=>?_));replace a:=F▸a
 (replace a:=KP a;subst a)
 refine Sr ?_;have X:=y.Ev.keeps j.base;have P:∀b o,s'.heap.get? b=U o->((s'.heap.push Oe).push (N9 c s'.heap.objs.size)).get? b=U o:=λb o e=>bO _ _ _ _ (bO _ _ _ _ e);have gx:((s'.heap.push Oe).push (N9 c s'.heap.objs.size)).get? (s'.heap.objs.size+1)=U (N9 c s'.heap.objs.size):=by have:=La (s'.heap.push Oe) (o:=N9 c s'.heap.objs.size) rfl;rwa[MX] at this
 obtain⟨h,g,M,tk,os⟩:=s';refine make_core (makes_of X g3) (looks_findIn X i1) (λself=>bind_fn X self i2) (.inl rfl) ?_;have B:ij κ H' (ad'.a9 h.objs.size) ((h.push Oe).push (N9 c h.objs.size)) h.objs.size (.dS []):=⟨[],(Pl h).push _,.nil⟩;have i:=(bg.a9 (s':=⟨(h.push Oe).push (N9 c h.objs.size),g,M,tk,os⟩) (D:=h.objs.size) j P rfl rfl (aW _ (K9 _)) ⟨_,bO _ _ _ _ (La _ rfl)⟩).aH (k:=k) (t:=t) (f' j (aW _ (K9 _))) (ef j (aW _ (K9 _))) B;have l:Step dD ad' H' h (ad'.aH ⟨k,t,H'.n⟩ h.objs.size) (H'.new k t (.dS [])) ((h.push Oe).push (N9 c h.objs.size)):=(bg.cT (s':=⟨(h.push Oe).push (N9 c h.objs.size),g,M,tk,os⟩) j P).aH j.au (aW _ (K9 _));have T:aJ κ (H'.new k t (.dS [])) (ad'.aH ⟨k,t,H'.n⟩ h.objs.size) ((h.push Oe).push (N9 c h.objs.size)) (.eQ K ⟨k,t,H'.n⟩) (.ref (h.objs.size+1)):=by
  refine⟨_,c,rfl,⟨?_,λz=>?_⟩,u,by simpa[Ad.aH] using gx,L7 _⟩
  ·rintro w;refine aD w λr hr e=>?_
   by_cases z:r=⟨k,t,H'.n⟩;·simp[Ad.aH,z] at e
   ·obtain⟨o,B⟩:=j.c0 (⟨r,by simpa[Hp.new,z] using hr,by simpa[Ad.aH,z] using e⟩:e2 H' ad' (h.objs.size+1))
    exact absurd (Lv B) (by refine(?_ :¬(h.objs.size+1<h.objs.size));omega)
  ·obtain⟨o,B⟩:=j.lD _ z
   exact absurd (Lv B) (by refine(?_ :¬(h.objs.size+1<h.objs.size));omega)
 refine Ou (q _ _ ⟨(h.push Oe).push (N9 c h.objs.size),g,M,tk,os⟩ _ E (uW N) ⟨_,xs,rfl,T,rx.step l i.au⟩ i) λr ag p=>?_
 ·induction r with
  |error e=>exact p
  |ok f=>induction f with
   |ret v=>obtain⟨x,I,v',⟨rfl,q⟩,rv,m,n⟩:=p;refine⟨rv,x,I,_,q,T.step n m.au,m,(S.trans l j.au).trans n i.au⟩
   |_=>exact p.elim
theorem ml(k:fG κ G)(CO:hg κ C d){K:String}{fs:List (String×V)}{fa:Ln}(R:bg κ H ad s)(e:aJ κ H ad s.heap (.eQ K r) x)(F:bC H r=U fs)(N:bc fs m=KT)(M:κ.fn (K++"."++m)=U fa)
  {nm:Nm}{gl:Gl}{env:Py}{J:aV}(V:EnvR κ nm gl env J H ad s.heap){p:S7 Bool}{Q:KV×List KV->Le->Prop}(q:Q (.ref fa,[x]) s):K7 (Lh κ.prog κ.w) A (Rg x (KR m) p) Q E s:=by
 refine EQ (q8 k R e F) λa c es n i b l I D f=>ay f λL j=>?_;clear e;subst b;refine fe (k.get _ _ l) λo B P T=>ay (k.az _ _ _ _ l M) λt u=>?_;obtain⟨w,S⟩:=V.ns;refine method_inst (⟨S,R.base,V.above⟩:Fr κ.base env.locals s.heap w) k.Ev I o t u (Z (L _) (K4 (gh ct j m) (λg=>ay g λ_ z=>Z z rfl) λh=>eB h λv y z _=>?_)) q;replace z:=N▸z;exact al z
theorem sS{o:Ex}{name:K3}{a pos:Qk}{M:List Ex}{env:Py}{P:KV->Le->Prop}(B:o.ol=false)(l:(a.endLine==pos.line)=true)(n:M.length<20)
  (h:K7 (Lh κ.prog κ.w) A (NN (o.py nm x) env) (λov S=>∀p,K7 (Lh κ.prog κ.w) A (Rg ov name p) (λr b=>K7 (Lh κ.prog κ.w) A (P8 pos r.1 r.2 (NY pos (Mu (Ex.cP nm M es) env)) []) P E b) E S) E s):
  K7 (Lh κ.prog κ.w) A (NN (.Call (.Attribute (o.py nm x) name a) (Ex.cP nm M es) [] pos) env) P E s:=by
 have cQ:∀(M:List Ex) (es:List K0),(NY pos (Mu (Ex.cP nm M es) env)).all (λx=>!x.1)=true/\(Ex.cP nm M es).length=M.length:=by
  intro M;induction M with
  |nil=>exact λ_=>⟨rfl,rfl⟩
  |cons m M i=>intro es;refine ay (i es.tail) λg j=>⟨(?_ :(NY pos (Mu (m.py nm (oQ 0 es)::Ex.cP nm M es.tail) env)).all (λx=>!x.1)=true),congrArg (·+1) j⟩;rw[dt];exact g
 have H:TF ((Ex.cP nm M es).length+([]:List Keyword).length) (NY pos (Mu (Ex.cP nm M es) env)) (backToKw pos (keywordEach [] env))=true:=by have k:backToKw pos (keywordEach [] env)=[]:=rfl;refine Z k ?_;unfold TF;refine Z ((cQ M es).1) (Z ((cQ M es).2) ?_);simp;lia
 have c:TY true (o.py nm x) env a pos=pure pos:=by unfold TY;simp[l]
 rw[arm_eval_Call,sc B];refine KN (Lc h (λov S d=>KN (MZ ?_)) λ_ _ e=>e);unfold methodCall;exact Z H (KN (LX (Lc (d _) (λr b f=>KN (RX c f)) λ_ _ e=>e)))
theorem yK(R:bg κ H ad s){r:cq}(h:(H.o r).isSome=true)(S:MP (ad.f r) s.heap h')(a:ij κ (H.set r o) ad h' (ad.f r) o){Q:PV}{v:V}(q:Q v (H.set r o))(e:aJ κ H ad s.heap v x)(t:Nat):
  a' κ X ad H s.heap Q x {s with heap:=h',toks:=t}:=
 ⟨ad,H.set r o,v,q,e.step (R.kg (X:=X) h S a.ex) (Hp.dJ R.au h),R.Bn h S a t,R.kg h S a.ex⟩
theorem nW(R:bg κ H ad s){r:cq}(h:(H.o r).isSome=true)(S:MP (ad.f r) s.heap h'){w:Array KV}(g:h'.get? (ad.f r)=U {cls:=.type "list",data:=.seq w n})(z:w.size<=LV)
  (f:aF κ H ad s.heap ys w.toList){Q:PV}{v:V}{x:KV}(q:Q v (H.set r (.list ys)))(e:aJ κ H ad s.heap v x)(t:Nat):a' κ X ad H s.heap Q x {s with heap:=h',toks:=t}:=
 yK (o:=.list ys) R h S ⟨w,n,g,z,f.step (R.kg (X:=X) h S ⟨_,g⟩) (Hp.dJ R.au h)⟩ q e t
theorem u5(h:ci d A):A.units+5<Oh:=by have:=h.units;have:Oh=9900:=rfl;lia
theorem zP(i:ci d A)(R:bg κ H ad s){r:cq}{Q:PV}(b:H.o r=U (.list ys))(h:bB ys.getLast? λv=>Q v (H.set r (.list ys.dropLast))):
  K7 (Lh κ.prog κ.w) A (call (.builtin "list.pop") [.ref (ad.f r)]) (a' κ dD ad H s.heap Q) E s:=by
 obtain⟨w,n,g,z,f⟩:=R.obj _ _ b;obtain⟨v,c,q⟩:=aQ h;rw[List.getLast?_eq_getElem?] at c;refine aD (f.get c) λy a e=>?_;simp only[f.length,Lq,QM] at a;refine call_meets SX ⟨_,g,rfl⟩ F.entry_list_pop (F.args_list_pop_1 _) (MeetsSeq.list_pop_last (ad.f r) w n y a z) ⟨g,?_⟩;have pos:w.size-1<w.size:=(Qi.mp a).1;refine nW (n:=_) R (bx b) (Mv ..) (TR g _) ?_ (ys:=ys.dropLast) ?_ q e _;·simp[Ow,pos];exact bM (gF _ _) 0x711381378 rfl z
 ·have:(w.eraseIdxIfInBounds (w.size-1)).toList=w.toList.dropLast:=by simp only[Ow,pos,dite_true,QL];simp only[<-Lq,List.eraseIdx_length_sub_one]
  simp only[this];exact f.dropLast
theorem td(a:ci d A)(R:bg κ H ad s){r:cq}{Q:PV}(h:H.o r=U (.list ys))(X:aJ κ H ad s.heap v x)(hz:ys.length<aN)(q:Q .none (H.set r (.list (ys++[v])))):
  K7 (Lh κ.prog κ.w) A (call (.builtin "list.append") [.ref (ad.f r),x]) (a' κ dD ad H s.heap Q) E s:=by
 obtain⟨w,n,g,z,f⟩:=R.obj _ _ h;refine Rf ⟨n,g⟩ (λh' l S=>cY l λN g'=>nW R (bx h) S g' ?_ (ys:=ys++[v]) (Z PB (f.append ⟨x,[],rfl,X,rfl⟩)) q rfl s.toks) z
 ·(refine Z (P0 _) (hR Lq (hR f.length ?_)))
  exact dv (Ox hz)
theorem tP(i:ci d A)(R:bg κ H ad s){r:cq}{Q:PV}{u:List V}(a:H.o r=U (.list ys))(X:aJ κ H ad s.heap v x)(e:ca H v=U u)(hz:ys.length+u.length<=aN)(q:Q .none (H.set r (.list (ys++u)))):
  K7 (Lh κ.prog κ.w) A (call (.builtin "list.extend") [.ref (ad.f r),x]) (a' κ dD ad H s.heap Q) E s:=by
 obtain⟨w,n,g,z,f⟩:=R.obj _ _ a;obtain⟨b,S,N,rfl,g',Z,c⟩:=da R e X;have h:w.size+S.size<=LV:=dv (by simp only[<-Lq,<-Lq,<-f.length,<-c.length];exact hz);refine call_meets R5 ⟨_,g,rfl⟩ F.entry_list_extend (F.args_list_extend_2 _ _) (AutoSeq1.list_extend_list_list_0 (ad.f r) w n b S N ?_ z (LH h)) ⟨g,g',?_⟩
 ·simp only[LL,not_and]
  intro _;unfold Tu;simp only[decide_eq_true_eq];exact Nat.not_lt_of_le (bM (io _ _ _) 0x1879131879 rfl h)
 ·refine nW (n:=_) R (bx a) (Mv ..) (TR g _) ?_ (ys:=ys++u) ?_ q rfl _
  ·simpa using h
  ·simpa using f.append c
theorem xB(g:ci d A)(R:bg κ H ad s){r:cq}(c:H.o r=U (.list ys))(h:ih H (.ref r) m vs Q)(f:aF κ H ad s.heap vs xs):
  (m="append"/\K7 (Lh κ.prog κ.w) A (call (.builtin "list.append") ([.ref (ad.f r)]++xs)) (a' κ dD ad H s.heap Q) E s)\/
  (m="pop"/\K7 (Lh κ.prog κ.w) A (call (.builtin "list.pop") ([.ref (ad.f r)]++xs)) (a' κ dD ad H s.heap Q) E s)\/
  (m="extend"/\K7 (Lh κ.prog κ.w) A (call (.builtin "list.extend") ([.ref (ad.f r)]++xs)) (a' κ dD ad H s.heap Q) E s):=by
 replace h:bB (H.o r) (Obj.cont H r m vs Q):=h;replace h:Obj.cont H r m vs Q (.list ys):=E5 c h;cases vs with
 |nil=>obtain rfl:xs=[]:=f;exact .inr (.inl ⟨h.1,zP g R c h.2.2⟩)
 |cons v vs=>
  obtain⟨rfl,h⟩:=h;obtain⟨x,_,rfl,X,rfl⟩:=f;refine K4 h (λa=>cH a λe hz q=>.inl ⟨e,td g R c X hz q⟩) λb=>cH b λe _ h=>?_
  ·obtain⟨S,u,hz,q⟩:=aQ h
   exact .inr (.inr ⟨e,tP g R c X u hz q⟩)
theorem x1(KO:fG κ G)(hA:ci d A)(R:bg κ H ad s){vs:List V}(v:kindOf H (.ref r)=U false)(h:ih H (.ref r) "get" vs Q)(f:aF κ H ad s.heap vs xs):
  K7 (Lh κ.prog κ.w) A (call (.builtin "dict.get") ([.ref (ad.f r)]++xs)) (a' κ dD ad H s.heap Q) E s:=by
 have h:bB (H.o r) (Obj.cont H r "get" vs Q):=h;obtain⟨o,z,h⟩:=aQ h;have B:=u5 hA;have N:=e7 KO R (bx z);induction o with
 |list ys=>have v:(U r|>.bind H.o).map Obj.F8=U false:=v;replace v:=z▸(show(U r|>.bind H.o)=H.o r from rfl)▸v;exact(nomatch v)
 |dI es=>
  obtain⟨k,C,h⟩:=aQ h;obtain⟨i,I,_,q⟩:=aQ h;replace f:=(c1 I)▸(oh C)▸f;obtain⟨K,D,J⟩:=R.obj _ _ z;obtain⟨x,_,rfl,⟨tk,rfl⟩,rfl⟩:=f;refine P7 O2 D.typeIs Qc (Sk _ _) (meets_dict_get (MC κ.prog κ.w) (ad.f r) (NF _ _ _ _) N) ⟨_,D.mapOf,K4 (gh (f:=id) (λ_ _ e=>e) J i) (λc=>ay c λw W=>?_) λg=>cR g λv' x w W L=>?_⟩
  ·refine Z ((W:Ny K i=KT)) ?_
   replace q:=w▸q;exact a'.hL R q rfl
  ·refine Z ((W:Ny K i=U x)) ?_
   replace q:=w▸q;exact a'.hL R q L
 |dS _=>exact h.elim
 |dP es=>
  obtain⟨k,C,h⟩:=aQ h;obtain⟨M,S,_,q⟩:=aQ h;replace f:=(oh C)▸f;obtain⟨K,D,J⟩:=R.obj _ _ z;obtain⟨x,_,rfl,X,rfl⟩:=f;refine gw (kL S X) λT j _ I=>?_;subst j;refine P7 O2 D.typeIs Qc (Sk _ _) (meetsH_dict_get _ (ad.f r) T N) ⟨i4 (K6 (L2 (by decide) _) B:A.units+1<Oh),M,K,I,D,K4 (hD J M) (λl=>ay l λw W=>?_) λm=>rh m λv' a x w W L=>?_⟩
  ·refine Z W ?_
   replace q:=w▸q;exact a'.hL R q rfl
  ·refine Z W ?_
   replace q:=w▸q;exact a'.hL R q L
 |dN es=>
  obtain⟨p,C,h⟩:=aQ h;obtain⟨M,S,_,q⟩:=aQ h;replace f:=(zj C)▸f;obtain⟨K,D,J⟩:=R.obj _ _ z;obtain⟨x,_,rfl,X,y,_,rfl,ry,rfl⟩:=f;refine ay (wr S X) λ_ b=>aD b λT n I=>?_;clear b X;subst n;refine P7 O2 D.typeIs Qc (F.args_dict_get_3 _ _ _) (meetsH_dict_get_default _ (ad.f r) T N y) ⟨wA B,M,K,I,D,K4 (hD (P:=λ_=>True) (J.bv λ_ _ p=>⟨p.1,trivial,p.2.2⟩) M) (λt=>ay t λw W=>?_) λu=>rh u λv' a x w W L=>?_⟩
  ·refine Z W ?_
   replace q:=w▸q;exact a'.hL R q ry
  ·refine Z W ?_
   replace q:=w▸q;exact a'.hL R q L
theorem nh(i:oY κ G C d M)(e:Ex.hN nm gl M es=true){pos:Qk}{env:Py}{Q:List V->Hp->Prop}(g:ci d A)
  (V:EnvR κ nm gl env J H ad s.heap)(R:bg κ H ad s)(h:Ex.bh G C M J Q H){f:KV}{P:Args->Le->Prop}
  (k:∀ad' H' s' vs xs,Q vs H'->aF κ H' ad' s'.heap vs xs->bg κ H' ad' s'->Step dD ad H s.heap ad' H' s'.heap->P ⟨xs,[]⟩ s'):
  K7 (Lh κ.prog κ.w) A (evalArgs f true (NY pos (Mu (Ex.cP nm M es) env)) []) P E s:=by
 induction M using LP with
 |nil=>exact evalArgs_nil3 (k ad H s [] [] h rfl R Step.refl)
 |cons m M=>have p:=i es nm gl e pos A E env J _ H ad s g V R h;refine(?_ :K7 _ A (evalArgs f true (NY pos (Mu (m.py nm (oQ 0 es)::Ex.cP nm M es.tail) env)) []) _ E s);replace p:K7 _ A (spliced (NY pos (Mu (m.py nm (oQ 0 es)::Ex.cP nm M es.tail) env))) _ E s:=p;rw[(dt m nm (oQ 0 es) (Ex.cP nm M es.tail) env)] at p⊢;refine OY (Lc p (λxs b p=>?_) λ_ _ y=>y);obtain⟨a,c,vs,q,x,r,S⟩:=p;exact k _ _ _ _ _ q x r S
theorem dp(i:oY κ G C d m)(h:Ex.hN nm gl m es=true){id:String}{pos:Qk}{env:Py}{Q:List V->Hp->Prop}(a:ci d A)
  (V:EnvR κ nm gl env J H ad s.heap)(R:bg κ H ad s)(w:Ex.bh G C m J Q H){first:List KV}{P:KV->Le->Prop}
  (k:∀ad' H' s' vs xs,Q vs H'->aF κ H' ad' s'.heap vs xs->bg κ H' ad' s'->Step dD ad H s.heap ad' H' s'.heap->K7 (Lh κ.prog κ.w) A (call (.builtin id) (first++xs)) P E s'):
  K7 (Lh κ.prog κ.w) A (P8 pos (.builtin id) first (NY pos (Mu (Ex.cP nm m es) env)) []) P E s:=
 QD (fY _ _ _ _ _) (nh i h a V R w k)
theorem iI(i:oY κ G C d m)(h:Ex.hN nm gl m es=true){pos:Qk}{env:Py}{Q:List V->Hp->Prop}(a:ci d A)
  (V:EnvR κ nm gl env J H ad s.heap)(R:bg κ H ad s)(w:Ex.bh G C m J Q H){P:KV->Le->Prop}
  (k:∀ad' H' s' vs xs,Q vs H'->aF κ H' ad' s'.heap vs xs->bg κ H' ad' s'->Step dD ad H s.heap ad' H' s'.heap->K7 (Lh κ.prog κ.w) A (call (.type T) xs) P E s'):
  K7 (Lh κ.prog κ.w) A (P8 pos (.type T) [] (NY pos (Mu (Ex.cP nm m es) env)) []) P E s:=
 Pr (fY _ _ _ _ _) (nh i h a V R w k)
theorem wG{b:Bool}(h:kindOf H o=U b):∃r x,o=.ref r/\H.o r=U x/\x.F8=b:=by obtain⟨x,h,e⟩:=fz h;obtain⟨r,a,c⟩:=bG h;exact⟨r,x,vI a,c,e⟩
theorem xD(h:kindOf H o=U true):∃r xs,o=.ref r/\H.o r=U (.list xs):=by refine cR (wG h) λr x e a b=>?_;induction x<;>cases b;exact⟨r,_,e,a⟩
theorem r9(h:ij κ H ad s.heap a x)(n:x.F8=false):s.TypeIs (.ref a) "dict"/\∃o,s.heap.get? a=U o/\o.dict=KT:=by
 induction x with
 |list xs=>exact aK n.symm
 |dI es=>obtain⟨k,D,_⟩:=h;exact⟨D.typeIs,D.mapOf.noDict _ rfl⟩
 |dS es=>obtain⟨k,D,_⟩:=h;exact⟨D.typeIs,D.mapOf.noDict _ rfl⟩
 |dP es=>obtain⟨k,D,_⟩:=h;exact⟨D.typeIs,TU D _ rfl⟩
 |dN es=>obtain⟨k,D,_⟩:=h;exact⟨D.typeIs,TU D _ rfl⟩
theorem xM(k:fG κ G)(CO:hg κ C d)(I:oY κ G C d es){K:String}(o:Ex.hN nm gl es xs=true){pos:Qk}{env:Py}(n:ci d A){ov:KV}(V:EnvR κ nm gl env J H ad s.heap)(R:bg κ H ad s)(x:aJ κ H ad s.heap (.eQ K r) ov)(S:Step dD Uq Uo Ul ad H s.heap)
  (q:(bB (bC H r) λfs=>bc fs m=.none)/\bB (G (K++"."++m)) λ_=>Ex.bh G C es J (λvs h=>C (K++"."++m) (.eQ K r::vs) Q h) H){P:S7 Bool}:
  K7 (Lh κ.prog κ.w) A (Rg ov (KR m) P) (λr c=>K7 (Lh κ.prog κ.w) A (P8 pos r.1 r.2 (NY pos (Mu (Ex.cP nm es xs) env)) []) (a' κ dD Uq Uo Ul Q) E c) E s:=by
 obtain⟨fs,g,a⟩:=aQ q.1;obtain⟨_,t,u⟩:=aQ q.2;refine cY (k.GO _ _ _ t) λfa b=>ml k CO R x g a b V (g9 I o (k.Dy _ _ b) k n V R u λad' H' s' vs xs q i j S'=>aD (CO _ _ _ _ q) λF l q=>?_);cases b.symm.trans l;refine Sr (Ou (q (ov::xs) ad' s' A E n.c ⟨_,_,rfl,x.step S' j.au,i⟩ j) λr w p=>?_);induction r with
 |error e=>exact p
 |ok f=>induction f with
  |ret v=>exact a'.trans (S.trans S' R.au) j.au p
  |_=>exact p
theorem xq(L:fG κ G)(I:oY κ G C d es)(v:Ex.hN nm gl es xs=true){pos:Qk}{env:Py}(j:ci d A){ov:KV}(V:EnvR κ nm gl env J H ad s.heap)(R:bg κ H ad s)(X:aJ κ H ad s.heap o ov)(S:Step dD Uq Uo Ul ad H s.heap)(st:bS H)
  (q:bB (kindOf H o) λk=>uB k m=true/\Ex.bh G C es J (λvs h=>kindOf h o=U k/\ih h o m vs Q) H){P:S7 Bool}:
  K7 (Lh κ.prog κ.w) A (Rg ov (KR m) P) (λr l=>K7 (Lh κ.prog κ.w) A (P8 pos r.1 r.2 (NY pos (Mu (Ex.cP nm es xs) env)) []) (a' κ dD Uq Uo Ul Q) E l) E s:=by
 obtain⟨k,K,M,q⟩:=aQ q;refine cR (wG K) λr x f z D=>?_;subst f;obtain⟨rfl,N⟩:=X;clear K;induction k with
 |true=>
  induction x with
  |list ys=>
   obtain⟨ws,n,g,_,_⟩:=R.obj _ _ z;have t:s.TypeIs (.ref (ad.f r)) "list":=⟨_,g,rfl⟩;have hd:∀a,MG (ad.f r)=.ref a->∃B,s.heap.get? a=U B/\B.dict=KT:=λa e=>by(injection e with e;subst e);exact⟨_,g,rfl⟩
   have cU:∀ad' H' s' vs xs,(kindOf H' (.ref r)=U true/\ih H' (.ref r) m vs Q)->aF κ H' ad' s'.heap vs xs->bg κ H' ad' s'->Step dD ad H s.heap ad' H' s'.heap->∀{n:String},m=n->n="append"\/n="pop"\/n="extend"->
     K7 (Lh κ.prog κ.w) A (call (.builtin ("list."++n)) ([.ref (ad.f r)]++xs)) (a' κ dD Uq Uo Ul Q) E s':=by
    intro ad' H' s' vs xs q b c S' n T W;refine eB (xD q.1) λr' aa e w=>?_
    (injection e with e;subst e)
    have p:=xB (E:=E) j c w q.2 b;replace p:=(S'.ext r N)▸p;have tr:∀{x:KV} {u:Le},a' κ dD ad' H' s'.heap Q x u->a' κ dD Uq Uo Ul Q x u:=λp=>a'.trans (S.trans S' R.au) c.au p;subst T;clear q M;clear q;rcases W with rfl |rfl |rfl
    ·rcases p with p |p |p
     ·exact Lc p.2 (λ_ _=>tr) λ_ _ y=>y
     ·exact absurd p.1 (by decide)
     ·exact absurd p.1 (by decide)
    ·rcases p with p |p |p
     ·exact absurd p.1 (by decide)
     ·exact Lc p.2 (λ_ _=>tr) λ_ _ y=>y
     ·exact absurd p.1 (by decide)
    ·rcases p with p |p |p
     ·exact absurd p.1 (by decide)
     ·exact absurd p.1 (by decide)
     ·exact Lc p.2 (λ_ _=>tr) λ_ _ y=>y
   have M:((m=="append"||m=="pop")||m=="extend")=true:=M;simp only[MA,MA,beq_iff_eq,beq_iff_eq,beq_iff_eq] at M;rcases M with(e |e) |e
   ·exact Z e (OK t PW F.slot_list_append F.type_list_append hd (dp I v j V R q λad' H' s' vs xs q b c S=>cU _ _ _ _ _ q b c S e (.inl rfl)))
   ·exact Z e (OK t PW SX F.type_list_pop hd (dp I v j V R q λad' H' s' vs xs q b c S=>cU _ _ _ _ _ q b c S e (.inr (.inl rfl))))
   ·exact Z e (OK t PW R5 F.type_list_extend hd (dp I v j V R q λad' H' s' vs xs q b c S=>cU _ _ _ _ _ q b c S e (.inr (.inr rfl))))
  |_=>exact aK D
 |false=>
  refine ay (r9 (R.obj _ _ z) D) λt i=>aD i λB g1 g2=>?_;have hd:∀a,MG (ad.f r)=.ref a->∃B,s.heap.get? a=U B/\B.dict=KT:=λa e=>by(injection e with e;subst e);exact⟨_,g1,g2⟩
  obtain rfl:m="get":=beq_iff_eq.mp M;refine OK t F.plainAttrs_dict O2 F.type_dict_get hd (dp I v j V R q λad' H' s' vs xs q b c S'=>?_);have p:=x1 (E:=E) L j c q.1 q.2 b;rw[S'.ext r N] at p;exact Lc p (λ_ _ p=>a'.trans (S.trans S' R.au) c.au p) λ_ _ y=>y
theorem m5(k:fG κ G)(CO:hg κ C d)(I:SE κ G C d e)(i:oY κ G C d es)(m:String):SE κ G C d (.az e m es):=by
 intro o nm gl l A E env J Q H ad s c V R w;refine v9 l λL B n f h=>sS (so B) L (of_decide_eq_true n) (Lc (I _ nm gl f A E env J _ H ad s c V R w) (λov g p P=>?_) λ_ _ y=>y);obtain⟨D,j,v,q,x,a,S⟩:=p;have b:=V.step S a.au;cases v with
 |eQ K r=>exact xM k CO i h c b a x S q
 |_=>exact xq k i h c b a x S a.au q
theorem Bq{t:Bool}(h:truthy v=U t)(e:aJ κ H ad s.heap v x){Q:Bool->Le->Prop}(q:Q t s):K7 (Lh κ.prog κ.w) A (Su x) Q E s:=by cases v<;>cases h;obtain rfl:x=.bool t:=e;exact SN q
theorem jj(i:SE κ G C d m)(w:∀J Q H,m.rQ G C J Q H->m.wp G C J (λv h=>bB (truthy v) λt=>Q t h) H)
  (f:∀e nm env,QO (m.py nm e) env (NN (m.py nm e) env)=(do let v<-NN (m.py nm e) env;standAt (m.py nm e).pos;holding [v] (Su v))):ST κ G C d m:=by
 intro e nm gl g A E env J Q H ad s j V R h;refine wpAny_isTrue_value (Lc (i e nm gl g A E env J _ H ad s j V R (w J Q H h)) (λx c p=>?_) λ_ _ y=>y) (f e nm env);obtain⟨a,b,v,q,X,r,S⟩:=p;obtain⟨t,T,q⟩:=aQ q;exact Bq T X ⟨a,b,q,r,S⟩
theorem uH(i:Nat):ST κ G C d (.var i):=jj (qq i) (λJ Q H h=>h) λe nm env=>rfl
theorem t6(k:fG κ G)(CO:hg κ C d)(i:oY κ G C d es)(f:String):ST κ G C d (.call f es):=jj (nF k CO i f) (λJ Q H h=>h) λe nm env=>rfl
theorem sR(k:fG κ G)(CO:hg κ C d)(i:SE κ G C d e)(I:oY κ G C d es)(m:String):ST κ G C d (.az e m es):=jj (m5 k CO i I m) (λJ Q H h=>h) λe nm env=>rfl
end
section
variable {A:Around} {h:Heap}
theorem jO(R:bg κ H ad s){o:Lg}(N:¬e2 H ad a)(f:¬ad.z a)(B:κ.base.get? a=KT)(g:s.heap.get? a=U o)(F:cv o)(h:MP a s.heap h')(E:∃o,h'.get? a=U o)(i:X a)(t:Nat):
  bg κ H ad {s with heap:=h',toks:=t}/\Step X ad H s.heap ad H h':=by
 have S:Step X ad H s.heap ad H h':=by
  refine⟨λb d e _ nx=>?_,λ_ _=>rfl,rfl,λ_ e n=>.inl ⟨e,n⟩,K9 _,λ_ _=>K9 _,λr _ j _ _=>⟨rfl,h.2 _ λz=>N ⟨r,j,z⟩⟩,λb d e=>?_⟩
  ·by_cases c:b=a
   ·clear E h B f N;subst c;rw[g] at e;(replace e:=KP e;subst e);exact absurd F (nx i)
   ·exact(h.2 b c).trans e
  ·by_cases c:b=a
   ·clear i h g B f N;subst c;exact E
   ·exact⟨d,(h.2 b c).trans e⟩
 refine⟨⟨λb d e=>?_,R.gens,R.os,R.au,R.inj,R.new,λr x e=>?_,R.zf,λb z=>?_,R.zb⟩,S⟩;·exact(h.2 b λc=>by clear i E h g f N;subst c;rw[B] at e;exact al e).trans (R.base b d e)
 ·exact(R.obj r x e).aL (S.aL R.au) (h.2 _ λz=>N ⟨r,by refine Z e ?_;rfl,z⟩)
 ·obtain⟨d,e⟩:=R.lD b z
  exact⟨d,(h.2 b λc=>f (hR c z)).trans e⟩
structure h4(κ:ds)(nm:Nm)(gl:Gl)(env:Py)(J:aV)(H:Hp)(ad:Ad)(h:Heap):Prop extends EnvR κ nm gl env J H ad h where
 DV:∀x i,nm.lookup x=U i->env.kindOf x=U .local\/(env.kindOf x=U .cell)
 cell:∀x c,env.cells.lookup x=U c->jx H ad c/\(∃w,h.IsCell c w)/\c≠env.locals/\κ.base.get? c=KT
 sq:∀x y c,env.cells.lookup x=U c->env.cells.lookup y=U c->x=y
 inj:∀x y i,nm.lookup x=U i->nm.lookup y=U i->x=y
theorem h4.step(V:h4 κ nm gl env J H ad h)(S:Step dD ad H h ad' H' h')(st:bS H'):h4 κ nm gl env J H' ad' h' where
 toEnvR:=V.toEnvR.step S st
 DV:=V.DV
 cell:=λx c C=>by exact fe (V.cell x c C) λi b n N=>eB b λw o a W=>⟨S.r2 st a i,⟨w,o,S.keep _ _ a i.1 λf=>f.elim,W⟩,n,N⟩
 sq:=V.sq
 inj:=V.inj
def FX(env:Py)(a:Ln):Prop:=a=env.locals\/∃x,env.cells.lookup x=U a
theorem jy(V:EnvR κ nm gl env J H ad h):κ.base.get? env.locals=KT:=aW _ V.above
theorem sT(V:h4 κ nm gl env J H ad h)(p:fJ ad H h ad H h'){i:Nat}(X:nm.lookup x=U i){v:ai.V}(cQ:i<J.length)
  (C:∀m,h.Ns env.locals m->∃M,h'.Ns env.locals M/\(∀y,y≠x->M y=m y))(l:∀y c,env.cells.lookup y=U c->y≠x->∀w,h.IsCell c w->h'.IsCell c w)
  (d:∀y c,env.cells.lookup y=U c->∃w,h'.IsCell c w)(s:Ef κ env x (U v) H ad h'):∀y j,nm.lookup y=U j->Ef κ env y ((J.set i (U v))[j]?).join H ad h':=by
 intro y j b;by_cases c:y=x
 ·clear l C;subst c
  rw[X] at b;obtain rfl:=KP b;exact Z (OM cQ) s
 ·exact Z (O5 (λe=>c (V.inj _ _ _ b (hR e X)):i≠j)) (K4 (V.var y j b) (λr=>ay r λk f=>.inl ⟨k,λw W=>cR (f w W) λm z N hz q=>aD (C m N) λM n e=>⟨M,z,n,(e y c).trans hz,q.aL p⟩⟩) λR=>ay R λk a=>ll a λg o I _ f=>.inr ⟨k,g,o,I,d y g o,λw W=>aD (f w W) λz hz q=>⟨z,l y g o c _ hz,q.aL p⟩⟩)
theorem su(V:h4 κ nm gl env J H ad s.heap)(R:bg κ H ad s){i:Nat}(p:nm.lookup x=U i)(cQ:i<J.length)(e:aJ κ H ad s.heap v y):
  K7 M A (storeName env x y) (λ_ s'=>h4 κ nm gl env (J.set i (U v)) H ad s'.heap/\bg κ H ad s'/\Step (FX env) ad H s.heap ad H s'.heap) E s:=by
 have hp:(env.scope.kind==.class||(env.scope.kind==.module&&env.locals !=env.globals))=false:=by refine Z V.kind ?_;rfl
 refine K4 (V.DV x i p) (λk=>?_) λk=>?_
 ·obtain⟨m,j⟩:=V.ns
  refine RD k j (λh' N l=>rk j λoL es ep gL dL kL fL=>?_) hp;have D:∃o,h'.get? env.locals=U o:=ts N λo _ _ g _=>⟨o,g⟩;refine ay (jO (X:=FX env) R V.im.1 V.im.2 (jy V.toEnvR) gL (.inl ⟨es,ep,dL⟩) l D (.inl rfl) (s.toks+1)) λK S=>?_;have r:=S.aL R.au;have h:∀z c,env.cells.lookup z=U c->∀w,s.heap.IsCell c w->h'.IsCell c w:=λz c a w ⟨o,g,q⟩=>⟨o,(l.2 c (V.cell z c a).2.2.1).trans g,q⟩;refine⟨⟨⟨V.kind,V.v8,V.blt,⟨_,N⟩,V.above,V.im,sT V r p cQ (λb n=>?_) (λz c a _=>h z c a) (λz c a=>?_) (.inl ⟨k,λw W=>?_⟩),V.c4,V.gH,V.ck⟩,V.DV,λz c a=>fe (V.cell z c a) λI B P t=>cY B λw W=>⟨I,⟨w,h z c a w W⟩,P,t⟩,V.sq,V.inj⟩,K,S⟩
  ·refine⟨_,N,λz hz=>rk n λaa Q T G d _ F=>?_⟩
   rw[gL] at G;obtain rfl:=KP G;replace d:=dL▸d
   (injection d with d;subst d)
   simp only[hz,if_false];simp only[<-F,<-fL]
  ·obtain⟨w,W⟩:=(V.cell z c a).2.1;exact⟨w,h z c a w W⟩
  ·(replace W:=KP W;subst W);exact⟨_,y,N,by simp,e.aL r⟩
 ·rcases V.var x i p with⟨k',_⟩ |⟨_,c,a,ic,⟨w,W⟩,_⟩
  ·rw[k] at k';exact(nomatch k')
  ·refine wpAny_storeName_cell V.kind k a W λh' f l=>aD W λoc gc dc=>?_
   have D:∃o,h'.get? c=U o:=aD f λo g _=>⟨o,g⟩;refine fe (V.cell x c a) λ_ _ nL t=>ay (jO (X:=FX env) R ic.1 ic.2 t gc (.inr ⟨w,dc⟩) l D (.inr ⟨x,a⟩) s.toks) λK S=>?_;have r:=S.aL R.au;have h:∀z c',env.cells.lookup z=U c'->z≠x->∀w,s.heap.IsCell c' w->h'.IsCell c' w:=λz c' C hz w ⟨o,g,q⟩=>⟨o,(l.2 c' λq=>hz (V.sq z x c (hR q C) a)).trans g,q⟩;have L:∀z c',env.cells.lookup z=U c'->∃w,h'.IsCell c' w:=λz c' C=>by
    by_cases q:z=x;·clear h k p;subst q;rw[a] at C;obtain rfl:=KP C;exact⟨_,f⟩
    ·obtain⟨w,W⟩:=(V.cell z c' C).2.1;exact⟨w,h z c' C q w W⟩
   have u:∀m,s.heap.Ns env.locals m->h'.Ns env.locals m:=λm j=>j.sameBut l (Qs nL);refine⟨⟨⟨V.kind,V.v8,V.blt,let ⟨m,j⟩:=V.ns;⟨m,u m j⟩,V.above,V.im,sT V r p cQ (λb n=>⟨b,u b n,λ_ _=>rfl⟩) h L (.inr ⟨.inl k,c,a,ic,⟨_,f⟩,λw W=>?_⟩),V.c4,V.gH,V.ck⟩,V.DV,λz c' C=>fe (V.cell z c' C) λI _ P t=>⟨I,L z c' C,P,t⟩,V.sq,V.inj⟩,K,S⟩
   (replace W:=KP W;subst W);exact⟨y,f,e.aL r⟩
inductive kI(κ:ds)(nm:Nm)(gl:Gl)(env:Py)(ad:Ad)(H:Hp)(h:Heap)(Q:aV->Hp->Prop)(s':Le):Prop
 |mk (ad':Ad) (H':Hp) (a:aV) (q:Q a H') (V:h4 κ nm gl env a H' ad' s'.heap) (R:bg κ H' ad' s') (S:Step (FX env) ad H h ad' H' s'.heap)
theorem kI.trans{Q:aV->Hp->Prop}(S:Step (FX env) ad H h ad' H' h')(st:bS H')(p:kI κ nm gl env ad' H' h' Q s):kI κ nm gl env ad H h Q s:=
 let ⟨a,b,v,q,r,R,c⟩:=p;⟨a,b,v,q,r,R,S.trans c st⟩
def SG(κ:ds)(G:String->Option V)(C:Ctx)(d:Nat)(m:Tg):Prop:=
 ∀(e:K0) (nm:Nm) (gl:Gl),m.ok nm gl e=true->∀(A:NO) (E:KV->Le->Prop) (env:Py) (J:aV) (Q:aV->Hp->Prop) (H:Hp) (ad:Ad) (s:Le) (v:V) (x:KV),
  ci d A->h4 κ nm gl env J H ad s.heap->bg κ H ad s->aJ κ H ad s.heap v x->m.wp G C v J Q H->K7 (Lh κ.prog κ.w) A (QP (m.py nm e) env x) (λ_ s'=>kI κ nm gl env ad H s.heap Q s') E s
theorem Step.fx(S:Step dD ad H h ad' H' h'):Step (FX env) ad H h ad' H' h':=S.bT λ_ f=>f.elim
theorem ve(i:Nat):SG κ G C d (.var i):=by intro e nm gl c A E env J Q H ad s v x a V R r h;exact SP (Lc (su V R (beq_iff_eq.mp (bu c).1) h.1 r) (λ_ s' p=>⟨ad,H,_,h.2,p.1,p.2.1,p.2.2⟩) λ_ _ y=>y)
set_option tactic.hygienic true in
theorem vX(R:bg κ H ad s){r:cq}(h:(H.o r).isSome=true)(i:∀b,X b->κ.base.get? b=KT/\¬e2 H ad b/\¬ad.z b)
  (k:∀b o,s.heap.get? b=U o->b≠ad.f r->¬X b->h'.get? b=U o)(F:∀b o,X b->s.heap.get? b=U o->cv o)(ex:∀b o,s.heap.get? b=U o->∃j,h'.get? b=U j)
  (d:Step X ad H s.heap ad (H.set r x) h'->ij κ (H.set r x) ad h' (ad.f r) x)(t:Nat):
  bg κ (H.set r x) ad {s with heap:=h',toks:=t}/\Step X ad H s.heap ad (H.set r x) h':=by
 have S:Step X ad H s.heap ad (H.set r x) h':=by
  refine⟨λb o e N nx=>k b o e (λq=>N ⟨r,h,q.symm⟩) λq=>nx q (F b o q e),λ_ _=>rfl,rfl,λq e n=>.inl ⟨?_,n⟩,K9 _,λq _=>?_,λq _ Q _ e=>?_,ex⟩
  ·by_cases c:q=r
   ·clear n e d k;subst c;exact h
   ·simpa[Hp.set,c] using e
  ·refine(?_ :H.e4 q<=if q=r then H.e4 r+1 else H.e4 q)
   split
   ·rename_i c;clear d k h;subst c;exact bM (kS _) 463159 rfl
   ·exact K9 _
  ·have c:q≠r:=by rintro rfl;simp[Hp.set] at e
   exact cY (R.c0 ⟨q,Q,rfl⟩) λo g=>⟨by simp[Hp.set,c],Z g (k _ _ g (λz=>c (R.inj _ _ Q h z)) λz=>(i _ z).2.1 ⟨q,Q,rfl⟩)⟩
 have f:∀z,((H.set r x).o z).isSome=true->(H.o z).isSome=true:=λz hz=>by
  by_cases c:z=r
  ·clear hz S d k;subst c;exact h
  ·simpa[Hp.set,c] using hz
 refine⟨⟨λb o e=>k b o (R.base b o e) (λq=>by subst q;replace e:=(R.new r h)▸e;exact al e) λq=>(by replace e:=((i b q).1)▸e;exact al e),R.gens,R.os,Hp.dJ R.au h,λp q P Q e=>R.inj p q (f p P) (f q Q) e,
  λq Q=>R.new q (f q Q),λq o e=>?_,λa q l=>R.zf a q ((Hp.gn h).mp l),λa q=>?_,R.zb⟩,S⟩
 ·by_cases c:q=r
  ·clear f k h;subst c
   simp[Hp.set] at e
   subst e;exact d S
  ·have E:H.o q=U o:=by simpa[Hp.set,c] using e
   have Q:(H.o q).isSome=true:=by refine Z E ?_;rfl
   exact cY (R.c0 ⟨q,Q,rfl⟩) λB g=>(R.obj q o E).aL (S.aL (Hp.dJ R.au h)) (Z g (k _ _ g (λz=>c (R.inj _ _ Q h z)) λz=>(i _ z).2.1 ⟨q,Q,rfl⟩))
 ·exact cY (R.lD a q) λo e=>ex a o e
noncomputable def r1(B h:Heap)(d L:Ln):List (Ln×Lg):=(L3 h.objs.size).filterMap λb=>if b=d\/b=L\/(B.get? b).isSome=true then KT else(h.get? b).map (b,·)
set_option tactic.hygienic true in
theorem jM{d b:Ln}{o:Lg}:(b,o)∈r1 B h d L↔(b≠d/\b≠L/\B.get? b=KT/\h.get? b=U o):=by
 unfold r1
 refine iR NM ?_
 constructor
 ·rintro q;refine aD q λc _ e=>?_
  split at e
  ·exact al e
  ·rename_i n
   refine aD (OC.mp e) λj g e=>?_
   cases e
   simp only[not_or,Bool.not_eq_true,Option.isSome_eq_false_iff,Nw] at n
   exact⟨n.1,n.2.1,n.2.2,g⟩
 ·rintro Q;refine fe Q λa f i H=>?_
  refine⟨b,Sl.mpr (Lv H),Z (if_neg (by simp[a,f,i])) (Z H ?_)⟩;rfl
end
section
variable {A:Around} {h:Heap} {K:Type} [DecidableEq K] {K':Type} [DecidableEq K'] {f:K'->K} (hf:∀a b,f a=f b->a=b)
include hf
theorem oq{R:V->KV->Prop}{s:List (K×KV)}(h:eS (λe g=>f e.1=g.1/\R e.2 g.2) es s)(k:K'){v:V}(r:R v x):
  eS (λe g=>f e.1=g.1/\R e.2 g.2) (bA es k v) (bA s (f k) x):=by
 induction h with
 |nil=>exact .cons ⟨rfl,r⟩ .nil
 |@cons p q l m H d i=>
  obtain⟨a,w⟩:=p;obtain⟨b,y⟩:=q;simp only at H;by_cases c:a=k
  ·subst c
   simp only[dW,db,if_pos,H.1];exact .cons ⟨H.1,r⟩ d
  ·have c':¬b=f k:=λe=>c (hf _ _ (H.1.trans e))
   simp only[dW,db,c,c',if_false];exact .cons H i
end
section
variable {A:Around} {h:Heap}
theorem xG{K b:Type}[DecidableEq K](l:List (K×b))(k:K)(v:b):(bA l k v).map (·.1)=if k∈l.map (·.1) then l.map (·.1) else l.map (·.1)++[k]:=by
 induction l with
 |nil=>simp[dW,db]
 |cons p l i=>
  obtain⟨a,w⟩:=p;by_cases c:a=k;·subst c;simp[dW,db]
  ·have c':¬k=a:=λe=>c e.symm
   simp only[dW,db,c,if_false,LC,i,KZ,c',false_or];split<;>simp
set_option tactic.hygienic true in
theorem uU{K c:Type}[DecidableEq K]{l:List (K×c)}(h:(l.map (·.1)).Nodup)(k:K)(v:c):((bA l k v).map (·.1)).Nodup:=by
 simp only[xG]
 split
 ·exact h
 ·rename_i n
  simp only[Mj]
  refine⟨h,by simp,λa A b H=>?_⟩
  simp only[KU] at H
  subst H
  rintro rfl
  exact n A
set_option tactic.hygienic true in
theorem qI{K:Type}[DecidableEq K]{l:List (K×KV)}(h:(l.map (·.1)).Nodup)(k:K)(v:KV):stored l k v=bA l k v:=by
 unfold stored
 induction l with
 |nil=>rfl
 |cons p l i=>
  obtain⟨a,w⟩:=p
  simp only[LC,Ll] at h
  by_cases c:a=k
  ·clear i;subst c
   simp only[SJ,decide_true,Bool.true_or,if_true,LC,dW,db]
   exact Z (map_store_of_not_mem _ _ _ h.1) rfl
  ·have:=i h.2
   simp only[SJ,LC,dW,db,c,if_false,decide_false,Bool.false_or]
   split
   ·rename_i q;rw[if_pos q] at this;simp only[<-this]
   ·rename_i q;rw[if_neg q] at this;simp only[<-this];rfl
theorem Dx{K b:Type}[DecidableEq K](l:List (K×b))(k:K)(v:b):(bA l k v).length<=l.length+1:=by
 induction l with
 |nil=>simp[dW,db]
 |cons p l i=>
  obtain⟨a,w⟩:=p;by_cases c:a=k;·clear i;subst c;simp[dW,db]
  ·simp only[dW,db,c,if_false,LK];exact bM (gF _ _) 0x113711311381371138 rfl i
theorem xV{prog:Mi}{w:MW}{name:K3}{hash:Int}:∀{es:List MF} {K:List (K3×KV)},Pairs (Mh prog w) es K->
  Pairs (Mh prog w) (TN name hash (.str name t) v es) (bA K name v):=by
 intro es K h;induction h with
 |nil=>exact .cons (O9 _ _ _ _) rfl .nil
 |@cons e kv es K H a b i=>
  obtain⟨k,y⟩:=kv;have q:e.key.isStr name=decide (k=name):=by
   refine Z (isStr_of _ _) ?_;show(Mh prog w).is name e.key=_;refine Z (KeyKind.is_eq_decide H name) ?_;by_cases c:k=name;·simp[c]
   ·exact Z (decide_eq_false c) (Z (decide_eq_false λz=>c z.symm) rfl)
  show Pairs _ (if e.key.isStr name=true then _ else _) (if k=name then _ else _);refine Z q ?_;by_cases c:k=name;·exact Z (decide_eq_true c) (Z (if_pos rfl) (Z (if_pos c) (.cons H rfl b)))
  ·exact Z (decide_eq_false c) (Z (if_neg L9) (Z (if_neg c) (.cons H a i)))
theorem qD{w:MW}{name:K3}:∀{es:List MF},(∀e∈es,∃k,(Mh prog w).is k e.key=true/\e.hash=(Mh prog w).hash k)->
  ∀e∈TN name (RK w.params name) (.str name t) v es,∃k,(Mh prog w).is k e.key=true/\e.hash=(Mh prog w).hash k
 |[],_,e,he=>by simp only[TN,KU] at he;subst he;exact⟨name,O9 _ _ _ _,rfl⟩
 |E::es,h,e,he=>by
  simp only[TN] at he;split at he
  ·rcases KZ.mp he with rfl |he
   ·exact h E KX
   ·exact h e (K1 _ he)
  ·rcases KZ.mp he with rfl |he
   ·exact h e KX
   ·exact qD (λx H=>h x (K1 _ H)) e he
theorem Cz{K:List (K3×KV)}{prog:Mi}{w:MW}(D:h.DictOf (Mh prog w) a K):
  ∃es n,h.get? a=U (QQ es n)/\Pairs (Mh prog w) es K/\(∀e∈es,∃k,(Mh prog w).is k e.key=true/\e.hash=(Mh prog w).hash k)/\(K.map (·.1)).Nodup:=by
 refine u6 D λo es ep f b hd g p N=>?_;obtain⟨H,c,d⟩:=b;obtain⟨C,i,A,l⟩:=o;simp only at H c d hd;subst H c d hd;exact⟨es.toList,ep,by simpa[QQ] using f,p,λe E=>g e (O0.mp E),N⟩
theorem lY{name:K3}{hash:Int}{key:KV}:∀es:List MF,(TN name hash key v es).length<=es.length+1
 |[]=>by simp[TN]
 |e::es=>by
  simp only[TN];split;·simp
  ·have:=lY (name:=name) (hash:=hash) (key:=key) (v:=v) es
   simp only[LK];exact bM (gF _ _) 0x113711311381371138 rfl this
theorem tR(KO:fG κ G)(V:h4 κ nm gl env J H ad s.heap)(R:bg κ H ad s){K:String}{fs:List (String×ai.V)}(e:aJ κ H ad s.heap (.eQ K r) x)(ev:aJ κ H ad s.heap v y)
  (hf:bC H r=U fs)(a2:gj.contains f=true)(hz:fs.length<900){Q:aV->Hp->Prop}(q:Q J (H.set r (.dS (bA fs f v)))):
  K7 (Lh κ.prog κ.w) A (setAttr x (KR f) y) (λ_ s'=>kI κ nm gl env ad H s.heap Q s') E s:=by
 have C:=bx (wc hf);refine EQ (q8 KO R e hf) λa c _ _ a3 L ag I D M=>ay M λ_ b1=>?_;clear e;subst L;refine yJ (Cz D) λes n g hp hk hn=>fe (KO.get _ _ ag) λk1 k2 k3 k4=>ay (KO.J2 _ _ _ ag a2) λf1 f2=>?_;obtain⟨m,T⟩:=V.ns;have N:News κ.base env.locals s.heap ((ad.f r,QQ es n)::r1 κ.base s.heap (ad.f r) env.locals):=by
  intro p P;rcases KZ.mp P with rfl |P
  ·exact⟨g,(λz=>V.im.1 ⟨r,C,z⟩:ad.f r≠env.locals),R.new r C⟩
  ·obtain⟨b,o⟩:=p
   exact fe (jM.mp P) λh1 h2 h3 ch=>⟨ch,h2,h3⟩
 have an:∀p∈r1 κ.base s.heap (ad.f r) env.locals,p.1≠ad.f r:=λp P=>by obtain⟨b,o⟩:=p;exact(jM.mp P).1
 have cQ:es.length=fs.length:=Z hp.length (hR b1.length rfl);have bd:(getL (KR f) es).isSome=true:=by
  unfold getL;split;·rfl
  ·have nk:es.any (·.refKey)=false:=by rw[RA];intro e he;refine aD (hk e he) λk bi _=>?_;obtain⟨t,ht⟩:=Q0 bi;simp[QS,ht]
   rw[nk];rfl
 refine set_dict (⟨T,R.base,V.above⟩:Fr κ.base env.locals s.heap m) KO.Ev N (⟨I.at_,rfl,rfl,g⟩:InstAt s.heap a (N9 c (ad.f r)) c (U (QQ es n))) rfl k4 k3 f2 k2 bd rfl (.head an) ?_ λh' F' N'=>?_
 ·have:=lY (name:=KR f) (hash:=RK κ.w.params (KR f)) (key:=.str (KR f) (s.toks+1)) (v:=y) es
  exact bM (io _ _ _) 0x7003e8513113800384513981371139 rfl hz (K2 cQ) this
 ·have kp:∀b o,s.heap.get? b=U o->b≠ad.f r->¬b=env.locals->h'.get? b=U o:=λb o e h1 h2=>by
   induction z:κ.base.get? b with
   |some o'=>have:=R.base _ _ z;rw[e] at this;obtain rfl:=KP this;exact F'.keep _ _ z
   |none=>exact(N' _ (K1 _ (jM.mpr ⟨h1,h2,z,e⟩))).1
  have gd:=(N' _ KX).1;simp only at gd;refine rh T λoL bk bn gL dL _=>rh F'.ns λck b2 b3 bs cl _=>?_;refine ay (vX (X:=λb=>b=env.locals) (h':=h') (x:=.dS (bA fs f v)) R C (λb hb=>by subst hb;exact⟨jy V.toEnvR,V.im.1,V.im.2⟩) kp
   (λb o hb e=>by subst hb;replace e:=gL▸e;obtain rfl:=KP e;exact .inl ⟨bk,bn,dL⟩)
   (λb o e=>by
    by_cases c1:b=ad.f r;·clear e;subst c1;exact⟨_,gd⟩
    ·by_cases c2:b=env.locals
     ·clear c1 e;subst c2;exact⟨_,bs⟩
     ·exact⟨_,kp b o e c1 c2⟩)
   (λS=>by
    refine⟨bA a3 (KR f) y,⟨_,_,_,gd,⟨rfl,rfl,rfl⟩,rfl,λe he=>qD hk e (by simpa using O0.mpr he),?_,uU hn _ _⟩,?_⟩;·simpa using xV hp
    ·refine(oq ct b1 f ev).bv λ_ _ p=>⟨p.1,p.2.step S (Hp.dJ R.au C)⟩)
   (s.toks+2)) λR' S=>?_;have Cy:=S.aL (Hp.dJ R.au C);refine⟨ad,_,J,q,⟨⟨V.kind,V.v8,V.blt,⟨m,F'.ns⟩,V.above,⟨λl=>V.im.1 ((Hp.gn C).mp l),V.im.2⟩,λx i hx=>?_,V.c4,V.gH,V.ck⟩,V.DV,λx c hc=>?_,V.sq,V.inj⟩,R',(S.bT λb hb=>.inl hb:Step (FX env) ad H s.heap ad (H.set r (.dS (bA fs f v))) h')⟩
  ·rcases V.var x i hx with⟨k,ff⟩ |⟨k,c,hc,W,⟨w,ow,gw,hw⟩,ff⟩
   ·refine .inl ⟨k,λu hu=>cR (ff u hu) λb4 z aa hz qq=>⟨m,z,F'.ns,rk aa λF bw bD j B _ ap=>?_,qq.aL Cy⟩⟩
    refine rk T λcg bL bN d h _ as=>?_;replace d:=j▸d;(replace d:=KP d;subst d);replace h:=B▸h;(injection h with h;subst h);exact hR (as _) (Z (ap _) hz)
   ·refine fe (V.cell x c hc) λ_ _ nL _=>?_
    have a1:c≠ad.f r:=λz=>W.1 ⟨r,C,z.symm⟩;refine .inr ⟨k,c,hc,⟨λl=>W.1 ((Hp.gn C).mp l),W.2⟩,⟨w,ow,kp _ _ gw a1 nL,hw⟩,λu hu=>aD (ff u hu) λz ac qq=>aD ac λF j B=>?_⟩;exact⟨z,⟨F,kp _ _ j a1 nL,B⟩,qq.aL Cy⟩
  ·exact fe (V.cell x c hc) λW af nL nb=>eB af λw ow gw hw=>⟨⟨λl=>W.1 ((Hp.gn C).mp l),W.2⟩,⟨w,ow,kp _ _ gw (λz=>W.1 ⟨r,C,z.symm⟩:c≠ad.f r) nL,hw⟩,nL,nb⟩
theorem tE(k:fG κ G)(i:SE κ G C d e)(f:String):SG κ G C d (.ao e f):=by
 intro m nm gl h A E env J Q H ad s v x j V R X w;obtain⟨n,h⟩:=bu h;refine Z (assign_Attribute ..) (KN (LX (Lc (i _ nm gl (bu h).2 A E env J _ H ad s j V.toEnvR R w) (λov c p=>?_) λ_ _ y=>y)));obtain⟨D,g,o,q,l,a,S⟩:=p;cases o with
 |eQ K r=>obtain⟨fs,b,hz,q⟩:=aQ q;refine KN (MZ (KN (LX (Lc (tR k (V.step S a.au) a l (X.step S a.au) b n hz q) (λ_ s' p=>Q9 (kI.trans S.fx a.au p)) λ_ _ y=>y))))
 |_=>exact q.elim
theorem qP{K:Type}[DecidableEq K]{R:V->KV->Prop}{P:K->Ln->Prop}{es:List (K×V)}{s:List (K×Ln×KV)}(h:eS (λe g=>e.1=g.1/\P e.1 g.2.1/\R e.2 g.2.2) es s)(n:(s.map (·.1)).Nodup)(k:K){v:V}(A:P k a)(r:R v x):
  eS (λe g=>e.1=g.1/\P e.1 g.2.1/\R e.2 g.2.2) (bA es k v) (storedH s k a x):=by
 unfold storedH;induction h with
 |nil=>exact .cons ⟨rfl,A,r⟩ .nil
 |@cons p q l m f j i=>
  obtain⟨b,w⟩:=p;obtain⟨c,y,z⟩:=q;refine cH f λe H d=>?_;clear f;obtain rfl:b=c:=e;have n:=Ll.mp n;have i:=i n.2;by_cases C:b=k
  ·clear i A;clear i;subst C
   have e:(Pw ((b,y,z)::m) b).isSome=true:=by simp[Pw]
   exact Z (if_pos e) ((Z (if_pos rfl) (Z (if_pos rfl) (Z (map_putAt_of_not_mem _ _ _ n.1) (.cons ⟨rfl,H,r⟩ j)))):eS _ (if b=b then(b,v)::l else _) ((if b=b then(b,y,x) else(b,y,z))::m.map (putAt b x)))
  ·refine Z (by simp[Pw,C]:(Pw ((b,y,z)::m) k).isSome=(Pw m k).isSome) ((Z (if_neg C) ?_):eS _ (if b=k then _ else(b,w)::bA l k v) _)
   by_cases t:(Pw m k).isSome=true
   ·rw[if_pos t] at i⊢
    exact((Z (if_neg C) (.cons ⟨rfl,H,d⟩ i)):eS _ _ ((if b=k then _ else(b,y,z))::m.map (putAt k x)))
   ·rw[if_neg t] at i⊢
    exact .cons ⟨rfl,H,d⟩ i
theorem od{n:Nat}(h:n<aN):n<=LV:=dv (LJ h)
theorem jd(R:bg κ H ad s){r:cq}{o:Obj}(h:(H.o r).isSome=true)(a:MP (ad.f r) s.heap h')(e:∃o,h'.get? (ad.f r)=U o)(b:fJ ad H s.heap ad (H.set r o) h'->ij κ (H.set r o) ad h' (ad.f r) o)(t:Nat):
  bg κ (H.set r o) ad {s with heap:=h',toks:=t}/\Step dD ad H s.heap ad (H.set r o) h':=
 have S:=R.kg (X:=dD) (x:=o) h a e
 ⟨R.Bn h a (b (S.aL (Hp.dJ R.au h))) t,S⟩
theorem i3{P:Mi}{w:MW}{K:Type}[DecidableEq K]{k:Sy P w K}{s:List (K×KV)}(D:h.DictOf k a s):(s.map (·.1)).Nodup/\∃o,h.get? a=U o:=by exact u6 D λo _ _ g _ _ _ _ n=>⟨n,o,g⟩
theorem hl{P:Mi}{w:MW}{K:Type}[DecidableEq K]{k:R3 P w K}{s:List (K×Ln×KV)}(D:h.DictOfH k a s):(s.map (·.1)).Nodup/\∃o,h.get? a=U o:=by exact u6 D λo _ _ g _ _ _ _ n=>⟨n,o,g⟩
theorem vd(KO:fG κ G)(T:ci d A)(R:bg κ H ad s){c:V}{Q:Hp->Prop}(h:gy H c k v Q)(N:aJ κ H ad s.heap c x)(j:aJ κ H ad s.heap k y)(J:aJ κ H ad s.heap v z){P:Le->Prop}
  (q:∀H' s',Q H'->bg κ H' ad s'->Step dD ad H s.heap ad H' s'.heap->P s'):K7 (Lh κ.prog κ.w) A (setItem x y z) (λ_ s'=>P s') E s:=by
 have F:=u5 T;obtain⟨r,W,h⟩:=aQ h;obtain⟨o,g,h⟩:=aQ h;rw[vI W] at N;obtain⟨rfl,_⟩:=N;induction o with
 |list _=>exact h.elim
 |dI es=>obtain⟨i,I,hz,h⟩:=aQ h;rw[c1 I] at j;obtain⟨u,rfl⟩:=j;obtain⟨K,D,f⟩:=R.obj _ _ g;have n:(K.map (·.1)).Nodup:=(i3 D).1;refine Se (NF _ _ _ _) D (λh' b m=>?_) (hR f.length (od hz));simp only[qI n] at b;have t:∃o,h'.get? (ad.f r)=U o:=(i3 b).2;obtain⟨w,S⟩:=jd (o:=.dI (bA es i v)) R (bx g) m t (λC=>⟨_,b,(oq (f:=id) (λ_ _ e=>e) f i J).bv λ_ _ p=>⟨p.1,p.2.aL C⟩⟩) (s.toks+1);exact q _ _ h w S
 |dS es=>obtain⟨i,I,hz,h⟩:=aQ h;rw[rx I] at j;obtain⟨u,rfl⟩:=j;obtain⟨K,D,f⟩:=R.obj _ _ g;have n:(K.map (·.1)).Nodup:=(i3 D).1;refine Se (O9 _ _ _ _) D (λh' b m=>?_) (hR f.length (od hz));simp only[qI n] at b;have t:∃o,h'.get? (ad.f r)=U o:=(i3 b).2;obtain⟨w,S⟩:=jd (o:=.dS (bA es i v)) R (bx g) m t (λC=>⟨_,b,(oq ct f i J).bv λ_ _ p=>⟨p.1,p.2.aL C⟩⟩) (s.toks+1);exact q _ _ h w S
 |dP es=>obtain⟨B,L,hz,h⟩:=aQ h;obtain⟨X,rfl,Z,I⟩:=kL L j;obtain⟨K,D,f⟩:=R.obj _ _ g;have n:(K.map (·.1)).Nodup:=(hl D).1;refine So (i4 (K6 (L2 (by decide) _) F:A.units+1<Oh)) I D (λh' b m=>?_) (hR f.length (od hz));have t:∃o,h'.get? (ad.f r)=U o:=(hl b).2;exact ay (jd (o:=.dP (bA es B v)) R (bx g) m t (λC=>⟨_,b,(qP (P:=λ_=>jx H ad) f n B Z J).bv λ_ _ p=>⟨p.1,⟨λl=>p.2.1.1 ((Hp.gn (bx g)).mp l),p.2.1.2⟩,p.2.2.aL C⟩⟩) (s.toks+(tK κ.prog κ.w).draws B)) λw S=>q _ _ h w S
 |dN es=>obtain⟨B,L,hz,h⟩:=aQ h;obtain⟨M,X,rfl,I⟩:=wr L j;rw[M] at j;obtain⟨K,D,f⟩:=R.obj _ _ g;have n:(K.map (·.1)).Nodup:=(hl D).1;refine So (wA F) I D (λh' b m=>?_) (hR f.length (od hz));have t:∃o,h'.get? (ad.f r)=U o:=(hl b).2;exact ay (jd (o:=.dN (bA es B v)) R (bx g) m t (λC=>⟨_,b,(qP (P:=λk a=>aJ κ H ad s.heap k.toV (.ref a)) f n B j J).bv λ_ _ p=>⟨p.1,p.2.1.aL C,p.2.2.aL C⟩⟩) (s.toks+(nK κ.prog κ.w).draws B)) λw S=>q _ _ h w S
theorem vu(K:fG κ G)(I:SE κ G C d e)(z:SE κ G C d i):SG κ G C d (.sub e i):=by intro N nm gl B A E env J Q H ad s v x m V R X W;refine ay (bu B) λF L=>Z (assign_Subscript ..) (KN (LX (Lc (I _ nm gl F A E env J _ H ad s m V.toEnvR R W) (λov j p=>?_) λ_ _ y=>y)));obtain⟨D,k,o,q,M,a,b⟩:=p;have c:=V.step b a.au;refine KN (LX (Lc (z _ nm gl L A E env J _ k D j m c.toEnvR a q) (λP n p=>?_) λ_ _ y=>y));obtain⟨h,t,w,q,rw,r,S⟩:=p;exact KN (MZ (KN (LX (vd K m r q (M.step S r.au) rw ((X.step b a.au).step S r.au) λl u q f g=>Q9 ⟨h,l,J,q,(c.step S r.au).step g f.au,f,((b.trans S a.au).trans g r.au).fx⟩))))
def Jj(κ:ds)(G:String->Option V)(C:Ctx)(d:Nat)(t:List Tg):Prop:=∀m∈t,SG κ G C d m
theorem g4(m:Tg)(nm:Nm)(e:K0)(r:List K0)(env:Py):M2 (m.py nm e::r) env=(false,QP (m.py nm e) env)::M2 r env:=by cases m<;>rfl
theorem vn(I:Jj κ G C d T):∀{es:List K0},Tg.hN nm gl T es=true->∀{xs:List KV} {vs:List V} {Q:aV->Hp->Prop} {H:Hp} {ad:Ad} {s:Le} {J:aV},ci d A->h4 κ nm gl env J H ad s.heap->bg κ H ad s->aF κ H ad s.heap vs xs->vs.length=T.length->
  Tg.bh G C T vs J Q H->K7 (Lh κ.prog κ.w) A (Nq ((M2 (Tg.cP nm T es) env).map (·.2)) xs) (λ_ s'=>kI κ nm gl env ad H s.heap Q s') E s:=by
 induction T with
 |nil=>
  intro es e xs vs Q H ad s J h V R X cQ w;clear X;cases vs with
  |cons _ _=>exact(nomatch cQ)
  |nil=>exact KY ⟨ad,H,J,w,V,R,Step.refl⟩
 |cons t T i=>
  intro es e xs vs Q H ad s J h V R X cQ w;cases vs with
  |nil=>exact(nomatch cQ)
  |cons v vs=>obtain⟨x,xs,rfl,X,b⟩:=X;obtain⟨j,k⟩:=bu e;refine(?_ :K7 _ A (Nq ((M2 (t.py nm (oQ 0 es)::Tg.cP nm T es.tail) env).map (·.2)) (x::xs)) _ E s);rw[g4];show K7 _ A (holding xs (QP (t.py nm (oQ 0 es)) env x)>>=λ_=>Nq ((M2 (Tg.cP nm T es.tail) env).map (·.2)) xs) _ E s;refine KN (LX (Lc (I t KX _ nm gl j A E env J _ H ad s v x h V R X w) (λ_ f p=>?_) λ_ _ y=>y));obtain⟨D,g,c,q,a,r,S⟩:=p;exact Lc (i (λm M=>I m (K1 _ M)) k h a r (b.step S r.au) (Pk cQ) q) (λ_ s' p=>kI.trans S r.au p) λ_ _ y=>y
theorem hp(nm:Nm)(env:Py):∀(T:List Tg) (es:List K0),(M2 (Tg.cP nm T es) env).length=T.length/\(M2 (Tg.cP nm T es) env).findIdx? (·.1)=KT
 |[],_=>⟨rfl,rfl⟩
 |t::T,es=>by
  refine ay (hp nm env T es.tail) λa b=>(?_ :(M2 (t.py nm (oQ 0 es)::Tg.cP nm T es.tail) env).length=_/\(M2 (t.py nm (oQ 0 es)::Tg.cP nm T es.tail) env).findIdx? (·.1)=KT)
  (rw[g4];refine Z (List.findIdx?_cons) ?_)
  exact⟨congrArg (·+1) a,by refine Z b ?_;rfl⟩
theorem uE(i:Jj κ G C d t):SG κ G C d (.aA t):=by
 intro j nm gl l A E env J Q H ad s v x c V R r h;cases v with
 |aA vs=>obtain⟨a,xs,n,rfl,I,g,z,f⟩:=r;obtain⟨L,m⟩:=hp nm env t (cu j);refine wpAny_assign_Tuple c.handled ⟨_,g,rfl,n,rfl⟩ (Z L (Z (by simp only[<-h.1,f.length,Lq]:t.length=xs.size) rfl)) m λh' K=>?_;have k:∀b o,s.heap.get? b=U o->h'.get? b=U o:=λb o e=>K b o (M5 (Lv e)) e;have q:bg κ H ad {s with heap:=h'}:=R.keeps k rfl rfl;have S':Step dD ad H s.heap ad H h':=bg.cT (s':={s with heap:=h'}) R k;exact Lc (vn i l c (V.step S' R.au) q (f.step S' R.au) h.1 h.2) (λ_ s' p=>kI.trans S'.fx R.au p) λ_ _ y=>y
 |_=>exact h.elim
end
inductive I6(κ:ds)(H:Hp)(ad:Ad)(h:Heap)(v:V)(f:Sz):Prop
 |mk (x:KV) (e:f=.ret x) (r:aJ κ H ad h v x)
def JT(κ:ds)(H:Hp)(ad:Ad)(h:Heap):Fl->Sz->Prop
 |.next,f=>f=.next
 |.ret v,f=>I6 κ H ad h v f
inductive dh(κ:ds)(nm:Nm)(gl:Gl)(env:Py)(ad:Ad)(H:Hp)(h:Heap)(Q:PS)(f:Sz)(s':Le):Prop
 |mk (ad':Ad) (H':Hp) (a:aV) (F:Fl) (q:Q F a H') (r:JT κ H' ad' s'.heap F f) (V:h4 κ nm gl env a H' ad' s'.heap) (R:bg κ H' ad' s') (S:Step (FX env) ad H h ad' H' s'.heap)
def SS(κ:ds)(G:String->Option V)(C:Ctx)(d:Nat)(m:St):Prop:=
 ∀(e:LW) (nm:Nm) (gl:Gl),m.ok nm gl e=true->∀(A:NO) (E:KV->Le->Prop) (env:Py) (J:aV) (Q:PS) (H:Hp) (ad:Ad) (s:Le),
  ci d A->h4 κ nm gl env J H ad s.heap->bg κ H ad s->m.wp G C J Q H->K7 (Lh κ.prog κ.w) A (exec (m.py nm e) env) (dh κ nm gl env ad H s.heap Q) E s
def DJ(κ:ds)(G:String->Option V)(C:Ctx)(d:Nat)(m:List St):Prop:=
 ∀(e:List LW) (nm:Nm) (gl:Gl),St.hN nm gl m e=true->∀(A:NO) (E:KV->Le->Prop) (env:Py) (J:aV) (Q:PS) (H:Hp) (ad:Ad) (s:Le),
  ci d A->h4 κ nm gl env J H ad s.heap->bg κ H ad s->St.bh G C m J Q H->K7 (Lh κ.prog κ.w) A (execs (St.cP nm m e) env) (dh κ nm gl env ad H s.heap Q) E s
section
variable {A:Around} {h:Heap}
theorem dh.trans{f:Sz}(S:Step (FX env) ad H h ad' H' h')(st:bS H')(p:dh κ nm gl env ad' H' h' Q f s):dh κ nm gl env ad H h Q f s:=
 let ⟨a,b,v,F,q,r,R,c,d⟩:=p;⟨a,b,v,F,q,r,R,c,S.trans d st⟩
theorem dh.of{Q:PS}{b:Hp}{a:Ad}{f:Sz}{F:Fl}(V:h4 κ nm gl env J H ad h)(r:bg κ b a s)(S:Step dD ad H h a b s.heap)(q:Q F J b)(fr:JT κ b a s.heap F f):dh κ nm gl env ad H h Q f s:=
 ⟨a,b,J,F,q,fr,V.step S r.au,r,S.fx⟩
theorem mx(V:h4 κ nm gl env J H ad h):interactive env=false:=by unfold interactive;refine Z V.kind ?_;rfl
theorem nb{m:Ex}(h:m.uD=false)(e:K0)(t:Option K0)(n:Nat)(env:Py):swapsWith (m.py nm e) t n env=pure false:=by
 cases m with
 |aE c=>cases c with
  |int i=>refine(?_ :swapsWith (if i<0 then _ else _) t n env=_);split<;>rfl
  |_=>rfl
 |bi b=>induction b<;>rfl
 |comp=>exact aK h.symm
 |_=>rfl
theorem sx(i:SE κ G C d e):SS κ G C d (.expr e):=by intro k nm gl c A E env J Q H ad s f V R w;refine ay (bu c) λg j=>wpAny_Expr_any (Lc (i _ nm gl j A E env J _ H ad s f V.toEnvR R w) (λx b p=>?_) λ_ _ y=>y) (mx V) (nb (so g) _ _ _ _);obtain⟨a,h,v,q,X,r,S⟩:=p;exact dh.of V r S q rfl
theorem xL{e:Ex}(h:e.isNone=true):e=.aE .none:=by
 cases e with
 |aE c=>cases c with
  |none=>rfl
  |_=>exact aK h
 |_=>exact aK h
theorem vo(i:SE κ G C d e):SS κ G C d (.ret e):=by
 intro b nm gl h A E env J Q H ad s g V R w;refine(?_ :K7 _ A (exec (.Return (match qA b with |[]=>KT |x::_=>U (e.py nm x)) b.pos) env) _ E s);replace h:(match qA b with |[]=>e.isNone |x::_=>e.ok nm gl x)=true:=h;generalize qA b=l at h⊢;induction l using LP with
 |cons x r=>refine wpAny_Return_some (Lc (i _ nm gl h A E env J _ H ad s g V.toEnvR R w) (λx c p=>?_) λ_ _ y=>y);obtain⟨D,f,v,q,X,a,S⟩:=p;exact dh.of V a S q ⟨_,rfl,X⟩
 |nil=>replace w:=(xL h)▸w;exact wpAny_Return_none (dh.of V R Step.refl w ⟨_,rfl,rfl⟩)
theorem ua:DJ κ G C d []:=λe nm gl c A E env J Q H ad s a V R h=>QB (dh.of V R Step.refl h rfl)
theorem rq(I:SS κ G C d m)(j:DJ κ G C d M):DJ κ G C d (m::M):=by
 intro o nm gl k A E env J Q H ad s g V R w;refine ay (bu k) λl n=>wpAny_execs_cons (Lc (I _ nm gl l A E env J _ H ad s g V R w) (λf e p=>?_) λ_ _ y=>y);obtain⟨a,h,b,F,q,fr,c,r,S⟩:=p;induction F with
 |next=>
  obtain rfl:f=.next:=fr
  exact Lc (j _ nm gl n A E env b _ h a e g c r q) (λf i p=>dh.trans S r.au p) λ_ _ y=>y
 |ret v=>obtain⟨x,rfl,X⟩:=fr;exact⟨a,h,b,.ret v,q,⟨x,rfl,X⟩,c,r,S⟩
theorem vO{c:Ex}(I:ST κ G C d c)(j:DJ κ G C d a)(B:DJ κ G C d b):SS κ G C d (.cG c a b):=by
 intro o nm gl k A E env J Q H ad s i V R w;refine og k λl m n=>wpAny_If (Lc (I _ nm gl l A E env J _ H ad s i V.toEnvR R w) (λt e p=>?_) λ_ _ y=>y);obtain⟨D,h,q,r,S⟩:=p;have v:=V.step S r.au;induction t with
 |true=>exact Lc (j _ nm gl m A E env J _ h D e i v r q) (λf g p=>dh.trans S.fx r.au p) λ_ _ y=>y
 |false=>exact Lc (B _ nm gl n A E env J _ h D e i v r (zM q)) (λf g p=>dh.trans S.fx r.au p) λ_ _ y=>y
theorem ry:SS κ G C d .raise:=λe nm gl c A E env J Q H ad s a V R h=>Tk h
theorem uj{x:K0}{pos:Qk}{Q:Sz->Le->Prop}(H:OO [x] e pos.line env=pure false)
  (h:K7 M A (NN e env) (λv S=>K7 M A (do assignStores env v (<-NR [x] e env) ((M2 [x] env).map (·.2))) Q E S) E s):K7 M A (exec (.Assign [x] e pos) env) Q E s:=by
 simp only[Tr];exact KN (MZ (Z H (KN (KY (Z (if_neg (by decide)) (KN h))))))
theorem Fe{c:Prop}[Decidable c]{a:Type}{x:a}:(if c then U x else KT)=KT\/(if c then U x else KT)=U x:=by
 by_cases h:c;·exact .inr (if_pos h)
 ·exact .inl (if_neg h)
theorem yh{g:K0->Option K3}(G:∀t,g t=KT\/g t=e5 t)(h:(NW g T).length=T.length):T.map e5=(NW g T).map U:=by
 induction T with
 |nil=>rfl
 |cons t T i=>
  simp only[Lu,LK] at h;simp only[Lu];induction H:g t with
  |none=>replace h:=H▸h;exact absurd (Li (L7 _) (KQ (K2 h.symm) (M7 g T))) (Ni _)
  |some y=>
   rw[H] at h;refine K4 (G t) (λe=>?_) λe=>?_;·replace H:=e▸H;exact al H
   ·refine Z LC (hR e (Z H (Z (i (Pk (h:(NW g T).length+1=T.length+1))) ?_)));rfl
inductive y4(nm:Nm)(t:Tg)(x:K0)(n:List K3):Prop
 |mk (T:List Tg) (e:t=.aA T) (h:T.length=2\/T.length=3) (H:(Tg.cP nm T (cu x)).map e5=n.map U) (hd:((Tg.cP nm T (cu x)).filterMap e5).Nodup)
theorem wh(nm:Nm):∀(t:List Tg) (es:List K0),(Tg.cP nm t es).length=t.length
 |[],_=>rfl
 |_::t,es=>congrArg (·+1) (wh nm t es.tail)
set_option tactic.hygienic true in
theorem tA(h:wj nm (.aA T) (.aA vs) x v=true):NR [.Tuple (Tg.cP nm T (cu x)) (hC x) x.pos] (.Tuple (Ex.cP nm vs (cu v)) (hC v) v.pos) env=pure KT\/
  ∃n,y4 nm (.aA T) x n/\NR [.Tuple (Tg.cP nm T (cu x)) (hC x) x.pos] (.Tuple (Ex.cP nm vs (cu v)) (hC v) v.pos) env=pure (U n):=by
 refine ay (bu h) λH a=>?_
 have l:=wh nm T (cu x)
 replace a:=of_decide_eq_true a
 replace H:=so H
 revert l H a
 generalize s:Tg.cP nm T (cu x)=es
 generalize Ex.cP nm vs (cu v)=u
 intro l a H
 unfold NR
 dsimp only
 by_cases c:(!(es.length==2||es.length==3)||u.length !=es.length||env.blockKind !=.function)=true
 ·exact .inl (if_pos c)
 refine Z (if_neg c) ?_
 split
 ·exact .inl rfl
 split
 ·exact .inl rfl
 rename_i C
 split
 ·exact .inl rfl
 refine Z (if_neg (by refine Z H ?_;decide)) ?_
 refine .inr ⟨_,⟨T,rfl,?_,?_,Z s a⟩,rfl⟩
 ·refine hR l ?_
  by_cases E:es.length=2
  ·exact .inl E
  ·refine .inr (PQ λb=>c (Z (beq_eq_false_iff_ne.mpr E) (Z (beq_eq_false_iff_ne.mpr b) ?_)));rfl
 ·refine Z s (yh (λt=>?_) (PQ λe=>C ?_))
  ·cases t<;>first |exact .inl rfl |skip
   exact Fe
  ·refine Z (bne_iff_ne.mpr e) ?_;rfl
theorem o0(h:wj nm t m x v=true):NR [t.py nm x] (m.py nm v) env=pure KT\/∃n,y4 nm t x n/\NR [t.py nm x] (m.py nm v) env=pure (U n):=by
 cases t with
 |aA T=>
  cases m with
  |aA vs=>exact tA h
  |aE c=>cases c with
   |int i=>refine(?_ :NR _ (if i<0 then _ else _) env=_\/_);split<;>exact .inl rfl
   |_=>exact .inl rfl
  |bi b=>induction b<;>exact .inl rfl
  |_=>exact .inl rfl
 |_=>exact .inl rfl
theorem fM{t:Tg}{Q:Unit->Le->Prop}(h:K7 M A (QP (t.py nm x) env v) Q E s):K7 M A (S5 v ((M2 [t.py nm x] env).map (·.2))) Q E s:=by rw[g4];exact h
theorem DZ:∀{T:List Tg} {es:List K0} {N:List K3},Tg.hN nm gl T es=true->(Tg.cP nm T es).map e5=N.map U->∃I:List Nat,T=I.map Tg.var/\N.map (λn=>nm.lookup n)=I.map U
 |[],es,N,c,h=>by
  cases N with
  |nil=>exact⟨[],rfl,rfl⟩
  |cons=>cases h
 |t::T,es,N,c,h=>by
  cases N with
  |nil=>cases h
  |cons n N=>
   refine ay (bu c) λH a=>?_;replace h:e5 (t.py nm (oQ 0 es))::(Tg.cP nm T es.tail).map e5=U n::N.map U:=h;injection h with e E;refine aD (DZ a E) λI r R=>?_;cases t with
   |var i=>have e:pj nm i=n:=KP e;have H:=beq_iff_eq.mp (bu H).1;rw[e] at H;exact⟨i::I,by refine Z r ?_;rfl,by refine Z LC (Z H (Z R ?_));rfl⟩
   |_=>exact al e
theorem cJ(V:h4 κ nm gl env J H ad s.heap)(R:bg κ H ad s){i:Nat}(X:nm.lookup x=U i)(cQ:i<J.length)(e:aJ κ H ad s.heap v y){Q:Unit->Le->Prop}
  (h:∀s',h4 κ nm gl env (J.set i (U v)) H ad s'.heap->bg κ H ad s'->Step (FX env) ad H s.heap ad H s'.heap->(∀w z,aJ κ H ad s.heap w z->aJ κ H ad s'.heap w z)->Q () s'):K7 M A (P9 env x y) Q E s:=
 wpAny_bindName (Lc (su V R X cQ e) (λ_ s' p=>h s' p.1 p.2.1 p.2.2 λ_ _ q=>q.aL (p.2.2.aL R.au)) λ_ _ y=>y)
theorem ul{P:List K3->List KV->Prop}{Q:aV->Hp->Prop}{s:List K3}{S:List Nat}{vs:List ai.V}(L:s.length=2\/s.length=3)(a:s.length=S.length)(w:vs.length=S.length)(b:s.map (λx=>nm.lookup x)=S.map U)(hd:s.Nodup)(f:aF κ H ad h vs xs)(W:Tg.bh G C (S.map Tg.var) vs J Q H)
  (p:∀n N i I v V X c,nm.lookup n=U i->nm.lookup N=U I->n≠N->i<J.length->I<J.length->aJ κ H ad h v X->aJ κ H ad h V c->Q ((J.set i (U v)).set I (U V)) H->P [n,N] [X,c])
  (r:∀n N d i I g v V j X c x3,nm.lookup n=U i->nm.lookup N=U I->nm.lookup d=U g->n≠N->n≠d->N≠d->i<J.length->I<J.length->g<J.length->aJ κ H ad h v X->aJ κ H ad h V c->aJ κ H ad h j x3->Q (((J.set i (U v)).set I (U V)).set g (U j)) H->P [n,N,d] [X,c,x3]):P s xs:=by
 rcases s with _ |⟨n,_ |⟨N,_ |⟨d,_ |⟨y,s⟩⟩⟩⟩
 ·rcases L with h |h<;>cases h
 ·rcases L with h |h<;>cases h
 ·rcases S with _ |⟨i,_ |⟨I,_ |⟨g,S⟩⟩⟩<;>first |cases a |skip
  rcases vs with _ |⟨v,_ |⟨V,_ |⟨j,vs⟩⟩⟩<;>first |cases w |skip
  obtain⟨X,R,rfl,F,c,t,rfl,k,rfl⟩:=f;injection b with a1 b;injection b with a2 _;refine cH W λm l q=>?_;rw[Mt] at l;exact p _ _ _ _ _ _ _ _ a1 a2 (λe=>(Ll.mp hd).1 (Z e (Lo _))) m l F k q
 ·rcases S with _ |⟨i,_ |⟨I,_ |⟨g,_ |⟨z,S⟩⟩⟩⟩<;>first |cases a |skip
  rcases vs with _ |⟨v,_ |⟨V,_ |⟨j,_ |⟨A,vs⟩⟩⟩⟩<;>first |cases w |skip
  obtain⟨X,R,rfl,F,c,t,rfl,k,x3,B,rfl,u,rfl⟩:=f;injection b with a1 b;injection b with a2 b;injection b with a3 _;refine fe W λm l o q=>?_;rw[Mt] at l;rw[Mt,Mt] at o;have d1:=Ll.mp hd;exact r _ _ _ _ _ _ _ _ _ _ _ _ a1 a2 a3 (λe=>d1.1 (Z e KX)) (λe=>d1.1 (Z e (K1 _ (Lo _)))) (λe=>(Ll.mp d1.2).1 (Z e (Lo _))) m l o F k u q
 ·rcases L with h |h<;>cases h
theorem H1{i I:Nat}{h:ai.V}{X:KV}{Q:aV->Hp->Prop}(V:h4 κ nm gl env J H ad s.heap)(R:bg κ H ad s)(S:Step (FX env) ad H Ul ad H s.heap)(a1:nm.lookup e=U i)(a2:nm.lookup g=U I)(N:i≠I)
  (L:i<J.length)(o:I<J.length)(F:aJ κ H ad s.heap h x)(p:aJ κ H ad s.heap j X)(q:Q ((J.set i (U h)).set I (U j)) H):
  K7 M A (do Nq ([e,g].reverse.map λn=>P9 env n) [x,X].reverse;pure Pc) (dh κ nm gl env ad H Ul (λf J H=>f=.next/\Q J H)) E s:=by
 refine KN (NZ (cJ V R a2 o p λl a r b k=>NZ (cJ a r a1 (Z Mt L) (k _ _ F) λm v c d K=>SZ (KY ?_))));rw[Pn _ _ N.symm] at v;exact⟨ad,H,_,.next,⟨rfl,q⟩,rfl,v,c,(S.trans b R.au).trans d r.au⟩
theorem G'{i I b:Nat}{w:ai.V}{X:KV}{Q:aV->Hp->Prop}(V:h4 κ nm gl env J H ad s.heap)(R:bg κ H ad s)(S:Step (FX env) ad H Ul ad H s.heap)(a1:nm.lookup o=U i)(a2:nm.lookup p=U I)(a3:nm.lookup t=U b)
  (N:i≠I)(l:i≠b)(m:I≠b)(L:i<J.length)(F:I<J.length)(G:b<J.length)(P:aJ κ H ad s.heap u X)(T:aJ κ H ad s.heap w y)(W:aJ κ H ad s.heap x x3)(q:Q (((J.set i (U u)).set I (U w)).set b (U x)) H):
  K7 M A (do Nq ([o,p,t].reverse.map λn=>P9 env n) [X,y,x3].reverse;pure Pc) (dh κ nm gl env ad H Ul (λf J H=>f=.next/\Q J H)) E s:=by
 refine KN (NZ (cJ V R a3 G W λz c r d k=>NZ (cJ c r a2 (Z Mt F) (k _ _ T) λB e a g K=>NZ (cJ e a a1 (by simp only[Mt,Mt];exact L) (K _ _ (k _ _ P)) λC v h j D=>SZ (KY ?_)))));rw[Pn _ _ m.symm,Pn _ _ l.symm,Pn _ _ N.symm] at v;exact⟨ad,H,_,.next,⟨rfl,q⟩,rfl,v,h,((S.trans d R.au).trans g r.au).trans j a.au⟩
theorem vD{l:List K3}{Q:aV->Hp->Prop}(hA:ci d A)(V:h4 κ nm gl env J H ad s.heap)(R:bg κ H ad s)(rx:aJ κ H ad s.heap v x)
  (hc:Tg.hN nm gl t es=true)(hl:t.length=2\/t.length=3)(hn:(Tg.cP nm t es).map e5=l.map U)(hd:((Tg.cP nm t es).filterMap e5).Nodup)(hw:Tg.wp G C (.aA t) v J Q H):
  K7 (Lh κ.prog κ.w) A (do rule "assign.swapped-stores";let I<-unpackItems x l.length KT;Nq (l.reverse.map λn=>P9 env n) I.reverse;pure Pc) (dh κ nm gl env ad H s.heap (λf J H=>f=.next/\Q J H)) E s:=by
 refine aD (DZ hc hn) λy p hi=>?_;clear hc;subst p;have D:l.Nodup:=by
  have:(Tg.cP nm (y.map Tg.var) es).filterMap e5=l:=by
   have e:(Tg.cP nm (y.map Tg.var) es).filterMap e5=((Tg.cP nm (y.map Tg.var) es).map e5).filterMap id:=by refine Z Rn ?_;rfl
   simp only[e,hn,Rn];simp
  rwa[this] at hd
 have N:=congrArg Ov hi;simp only[KS,KS] at N;have L:l.length=2\/l.length=3:=by refine Z N ?_;rwa[KS] at hl
 have hv:∃vs,v=.aA vs:=by
  clear rx;cases v with
  |aA vs=>exact⟨vs,rfl⟩
  |_=>exact Tk hw
 obtain⟨vs,rfl⟩:=hv;obtain⟨a,xs,n,rfl,ia,g,z,f⟩:=rx;obtain⟨w,W⟩:=hw;simp only[KS] at w;have hsz:l.length=xs.size:=by have:=f.length;simp only[Lq] at this;lia
 refine KN (Oy (KN (Z hsz (wpAny_unpackItems_tuple hA.handled ⟨_,g,rfl,n,rfl⟩ λh' hk=>?_))));have K:∀b o,s.heap.get? b=U o->h'.get? b=U o:=λb o e=>hk b o (M5 (Lv e)) e;have r:bg κ H ad {s with heap:=h'}:=R.keeps K rfl rfl;have S:Step dD ad H s.heap ad H h':=bg.cT (s':={s with heap:=h'}) R K;have c:=V.step S R.au;have F:=f.step S R.au;generalize h:({s with heap:=h'}:Le)=k;have eh:h'=k.heap:=hR h rfl;simp only[h] at r;simp only[eh] at c F S;clear h eh hk K;have u:∀{a b:K3} {i j:Nat},nm.lookup a=U i->nm.lookup b=U j->a≠b->i≠j:=λh1 h2 n e=>n (V.inj _ _ _ h1 (Z e h2));have S:Step (FX env) ad H s.heap ad H k.heap:=S.fx;exact ul (P:=λl xs=>K7 (Lh κ.prog κ.w) A (do Nq (l.reverse.map λn=>P9 env n) xs.reverse;pure Pc) _ E k) L N w hi D F W
  (λ_ _ _ _ _ _ _ _ a1 a2 m B M T X q=>H1 c r S a1 a2 (u a1 a2 m) B M T X q)
  λ_ _ _ _ _ _ _ _ _ _ _ _ a1 a2 a3 m aa ac B M l3 T X f3 q=>G' c r S a1 a2 a3 (u a1 a2 m) (u a1 a3 aa) (u a2 a3 ac) B M l3 T X f3 q
theorem dh.next{Q:PS}{f:Sz}(p:dh κ nm gl env ad H h (λf J H=>f=.next/\Q .next J H) f s):dh κ nm gl env ad H h Q f s:=by obtain⟨a,b,c,F,⟨rfl,q⟩,r,V,R,S⟩:=p;exact⟨a,b,c,.next,q,r,V,R,S⟩
theorem pD(it:SG κ G C d t)(K:SE κ G C d e){pos:Qk}(L:wj nm t e x v=true)(B:t.ok nm gl x=true)(M:e.ok nm gl v=true)(F:OO [t.py nm x] (e.py nm v) pos.line env=pure false)
  (u:ci d A)(V:h4 κ nm gl env J H ad s.heap)(R:bg κ H ad s)(W:St.wp G C (.a8 t e) J Q H):K7 (Lh κ.prog κ.w) A (exec (.Assign [t.py nm x] (e.py nm v) pos) env) (dh κ nm gl env ad H s.heap Q) E s:=by
 refine uj F (Lc (K _ nm gl M A E env J _ H ad s u V.toEnvR R W) (λX S p=>?_) λ_ _ y=>y);obtain⟨D,h,w,q,I,r,a⟩:=p;have b:=V.step a r.au;clear W F;rcases o0 (env:=env) L with z |⟨N,⟨ts,rfl,P,T,hd⟩,z⟩
 ·refine Z z (KN (KY ((KN (fM (Lc (it _ nm gl B A E env J _ h D S w X u b r I q) (λ_ j p=>KY ?_) λ_ _ y=>y))):K7 (Lh κ.prog κ.w) A (do S5 X ((M2 [t.py nm x] env).map (·.2));pure Pc) _ E S)))
  obtain⟨c,k,g,q,l,m,o⟩:=p;exact⟨c,k,g,.next,q,rfl,l,m,a.fx.trans o r.au⟩
 ·exact Z z (KN (KY ((Lc (vD u b r I B P T hd q) (λf j p=>(dh.trans a.fx r.au p).next) λ_ _ y=>y):K7 (Lh κ.prog κ.w) A (do rule "assign.swapped-stores";let i<-unpackItems X N.length KT;Nq (N.reverse.map λn=>P9 env n) i.reverse;pure Pc) _ E S)))
end
variable {I:Addr}
section
variable {A:Around} {h:Heap}
theorem di(z:ad.z I)(k:LZ I h h'):fJ ad H h ad H h':=⟨λb o e _ i=>⟨i,k b o (λq=>i.2 (Z q z)) e⟩,λ_ _=>rfl,K9 _⟩
theorem bg.t8(R:bg κ H ad s)(i:ad.z I)(k:LZ I s.heap h')(h:∃o,h'.get? I=U o)(t:Nat):bg κ H ad {s with heap:=h',toks:=t} where
 base:=λb o e=>k b o (λq=>by clear h k;subst q;rw[R.zb _ i] at e;exact al e) (R.base b o e)
 gens:=R.gens
 os:=R.os
 au:=R.au
 inj:=R.inj
 new:=R.new
 obj:=λr o e=>by have q:=R.obj r o e;obtain⟨B,g⟩:=q.ex;exact q.aL (di i k) ((k _ _ (λz=>R.zf _ i ⟨r,by refine Z e ?_;rfl,z⟩) g).trans g.symm)
 zf:=R.zf
 lD:=λa q=>by
  by_cases c:a=I;·clear k i;subst c;exact h
  ·obtain⟨o,e⟩:=R.lD a q;exact⟨o,k a o c e⟩
 zb:=R.zb
theorem gd{D:Ln}(k:LZ D h h'):fJ (ad.a9 D) H h ad H h':=
 ⟨λb o e _ i=>⟨⟨i.1,λq=>i.2 (.inr q)⟩,k b o (λq=>i.2 (.inl q)) e⟩,λ_ _=>rfl,K9 _⟩
theorem bg.iY(R:bg κ H (ad.a9 I) s)(n:¬ad.z I)(k:LZ I s.heap h')(t:Nat):bg κ H ad {s with heap:=h',toks:=t} where
 base:=λb o e=>k b o (λq=>by clear k n;subst q;rw[R.zb _ (.inl rfl)] at e;exact al e) (R.base b o e)
 gens:=R.gens
 os:=R.os
 au:=R.au
 inj:=R.inj
 new:=R.new
 obj:=λr o e=>by have q:=R.obj r o e;obtain⟨B,g⟩:=q.ex;exact q.aL (gd k) ((k _ _ (λz=>R.zf _ (.inl rfl) ⟨r,by refine Z e ?_;rfl,z⟩) g).trans g.symm)
 zf:=λa q=>R.zf a (.inr q)
 lD:=λa q=>by obtain⟨o,e⟩:=R.lD a (.inr q);exact⟨o,k a o (λc=>n (hR c q)) e⟩
 zb:=λa q=>R.zb a (.inr q)
theorem Step.hY(S:Step X Uq Uo Ul ad H h)(i:Ul.get? I=none)(k:LZ I h h')(l:∀r,(H.o r).isSome=true->ad.f r≠I/\∃o,h.get? (ad.f r)=U o):Step X Uq Uo Ul ad H h' where
 keep:=λb o e N nx=>k b o (λq=>by clear l k;subst q;rw[i] at e;exact al e) (S.keep b o e N nx)
 ext:=S.ext
 z:=S.z
 fresh:=S.fresh
 n:=S.n
 e4:=S.e4
 same:=λr R f c e=>by refine ay (S.same r R f c e) λa b=>?_;obtain⟨E,o,g⟩:=l r c;exact⟨a,(b).symm▸((S.ext r R)).symm▸Z g (k _ _ E g)⟩
 bv:=λb o e=>by obtain⟨d,j⟩:=S.bv b o e;exact⟨d,k b d (λq=>by clear l k;subst q;rw[i] at e;exact al e) j⟩
theorem bg.pK(R:bg κ H ad s)(z:ad.z I):∀r,(H.o r).isSome=true->ad.f r≠I/\∃o,s.heap.get? (ad.f r)=U o:=
 λr h=>⟨λq=>R.zf I z ⟨r,h,q⟩,R.c0 ⟨r,h,rfl⟩⟩
theorem EnvR.jS(V:EnvR κ nm gl env J H ad h)(l:fJ ad H h ad' H' h')(K:∀b o,FX env b->h.get? b=U o->jx H ad b->jx H' ad' b/\h'.get? b=U o):EnvR κ nm gl env J H' ad' h' where
 kind:=V.kind
 v8:=V.v8
 blt:=V.blt
 ns:=by obtain⟨m,o,es,ep,e,r⟩:=V.ns;exact⟨m,o,es,ep,(K _ _ (.inl rfl) e V.im).2,r⟩
 above:=V.above
 im:=by obtain⟨m,o,es,ep,e,r⟩:=V.ns;exact(K _ _ (.inl rfl) e V.im).1
 var:=λx i X=>by
  rcases V.var x i X with⟨k,f⟩ |⟨k,c,C,I,⟨w,o,n,W⟩,f⟩
  ·exact .inl ⟨k,λv d=>cR (f v d) λm y B g q=>ts B λo es ep e r=>⟨m,y,⟨o,es,ep,(K _ _ (.inl rfl) e V.im).2,r⟩,g,q.aL l⟩⟩
  ·exact .inr ⟨k,c,C,(K _ _ (.inr ⟨_,C⟩) n I).1,⟨w,o,(K _ _ (.inr ⟨_,C⟩) n I).2,W⟩,λv d=>aD (f v d) λy a q=>aD a λp j g=>⟨y,⟨p,(K _ _ (.inr ⟨_,C⟩) j I).2,g⟩,q.aL l⟩⟩
 c4:=V.c4
 gH:=V.gH
 ck:=V.ck
theorem h4.jS(V:h4 κ nm gl env J H ad h)(y:fJ ad H h ad' H' h')(k:∀b o,FX env b->h.get? b=U o->jx H ad b->jx H' ad' b/\h'.get? b=U o):h4 κ nm gl env J H' ad' h' where
 toEnvR:=V.toEnvR.jS y k
 DV:=V.DV
 cell:=λx c C=>by exact fe (V.cell x c C) λi B n N=>eB B λw o a W=>⟨(k _ _ (.inr ⟨_,C⟩) a i).1,⟨w,o,(k _ _ (.inr ⟨_,C⟩) a i).2,W⟩,n,N⟩
 sq:=V.sq
 inj:=V.inj
theorem h4.t8(V:h4 κ nm gl env J H ad h)(z:ad.z I)(k:LZ I h h'):h4 κ nm gl env J H ad h':=
 V.jS (di z k) λb o _ e i=>⟨i,k b o (λq=>i.2 (Z q z)) e⟩
theorem h4.iY(V:h4 κ nm gl env J H (ad.a9 I) h)(k:LZ I h h'):h4 κ nm gl env J H ad h':=
 V.jS (gd k) λb o _ e i=>⟨⟨i.1,λq=>i.2 (.inr q)⟩,k b o (λq=>i.2 (.inl q)) e⟩
theorem h4.a9(V:h4 κ nm gl env J H ad h)(k:∀b o,h.get? b=U o->h'.get? b=U o)(a:h.get? I=none):h4 κ nm gl env J H (ad.a9 I) h':=
 V.jS (cy k a) λb o _ e i=>⟨⟨i.1,λq=>q.elim (λq=>by subst q;replace e:=a▸e;exact al e) i.2⟩,k b o e⟩
theorem Heap.ExtBut.Hv{a:Ln}:LZ a h h:=λ_ _ _ e=>e
def gL(h:Heap)(a:Ln)(es:Array MF)(ep:Nat):Prop:=∃o,h.get? a=U o/\o.ExactDict/\o.data=.dict es ep
def kk(κ:ds)(H:Hp)(ad:Ad)(h:Heap)(I:Ln):It->Prop
 |.c0 r i=>h.IsListIter I (ad.f r) i/\r.n<H.n
 |.bo l=>(∃t xs n i,h.IsTupleIter I t i/\jx H ad t/\h.get? t=U {cls:=.type "tuple",data:=.seq xs n}/\aF κ H ad h l (xs.toList.drop i))\/
   (∃t xs n i,h.IsListIter I t i/\jx H ad t/\h.get? t=U {cls:=.type "list",data:=.seq xs n}/\aF κ H ad h l (xs.toList.drop i))\/
   (∃x:Nat,IsRangeIter h I x l.length 1/\l=(L3 l.length).map λ(k:Nat)=>V.int ((x+k:Nat):Int))
 |.dict r v l=>∃es ep i,h.IsKeyIter I (ad.f r) i es.size ep/\r.n<H.n/\v<=H.e4 r/\(H.e4 r=v->(H.o r).isSome=true->gL h (ad.f r) es ep)/\aF κ H ad h l ((es.toList.drop i).map (·.key))
theorem Fm{o:Lg}{xs}(e:o.data=.fields xs):X I->¬cv o:=λ_=>ls e
theorem kk.mv(K:∀o xs,h.get? I=U o->o.data=.fields xs->h'.get? I=U o)(T:∀t o,h.get? t=U o->¬cv o->jx H ad t->jx H' ad' t/\h'.get? t=U o)(C:∀l xs,aF κ H ad h l xs->aF κ H' ad' h' l xs)(R:∀r,r.n<H.n->r.n<H'.n/\ad'.f r=ad.f r)
  (kv:∀r v es ep,r.n<H.n->v<=H.e4 r->(H.e4 r=v->(H.o r).isSome=true->gL h (ad.f r) es ep)->v<=H'.e4 r/\(H'.e4 r=v->(H'.o r).isSome=true->gL h' (ad.f r) es ep)):∀{j:It},kk κ H ad h I j->kk κ H' ad' h' I j
 |.c0 r i,p=>by refine ay p λb N=>?_;obtain⟨o,a,c,hd⟩:=b;exact⟨⟨o,K _ _ a hd,c,(R r N).2.symm▸hd⟩,(R r N).1⟩
 |.bo l,p=>by
  refine p.elim (λp=>.inl ?_) λp=>p.elim (λp=>.inr (.inl ?_)) λp=>.inr (.inr (aD p λx g e=>⟨x,K _ _ g rfl,e⟩))
  ·refine ta p λt xs n i B it g f=>?_;obtain⟨o,a,c,hd⟩:=B
   have q:=T _ _ g (hV rfl) it;exact⟨t,xs,n,i,⟨o,K _ _ a hd,c,hd⟩,q.1,q.2,C _ _ f⟩
  ·refine ta p λt xs n i d it g f=>?_;obtain⟨o,a,c,hd⟩:=d
   have q:=T _ _ g (hV rfl) it;exact⟨t,xs,n,i,⟨o,K _ _ a hd,c,hd⟩,q.1,q.2,C _ _ f⟩
 |.dict r v l,p=>by refine Cc p λes ep i k N V Q f=>?_;obtain⟨o,a,c,hd⟩:=k;have q:=kv r v es ep N V Q;have e:=R r N;exact⟨es,ep,i,⟨o,K _ _ a hd,c,Z e.2 hd⟩,e.1,q.1,Z e.2 q.2,C _ _ f⟩
theorem kk.step(S:Step X ad H h ad' H' h')(st:bS H')(N:¬e2 H ad I):kk κ H ad h I j->kk κ H' ad' h' I j:=
 kk.mv (λ_ _ o hd=>S.keep _ _ o N λ_=>ls hd) (λ_ _ g F it=>⟨S.r2 st g it,S.keep _ _ g it.1 λ_=>F⟩) (λ_ _ f=>f.step S st) (λr n=>⟨Li n S.n,S.ext r n⟩) λr v es ep n V Q=>⟨KQ V (S.e4 r n),λe s=>by have E:H.e4 r=v:=Md (KQ (S.e4 r n) (K2 e)) V;have a:(H.o r).isSome=true:=(S.fresh r s (st r s)).elim (λq=>q.1) λq=>absurd q.1 (Nat.not_le_of_lt n);exact aD (Q E a) λb g' R=>⟨b,(S.same r n a s (e.trans E.symm)).2.trans g',R⟩⟩
theorem kk.t8(z:ad.z D)(k:LZ D h h')(N:D≠I)(l:¬e2 H ad D):kk κ H ad h I j->kk κ H ad h' I j:=
 kk.mv (λ_ _ o _=>k _ _ N.symm o) (λ_ _ g _ it=>⟨it,k _ _ (λq=>it.2 (Z q z)) g⟩) (λ_ _ f=>f.aL (di z k)) (λ_ n=>⟨n,rfl⟩) λr v es ep n V Q=>⟨V,λe s=>(Q e s).elim λa w=>⟨a,k _ _ (λq=>l ⟨r,s,q⟩) w.1,w.2⟩⟩
theorem oz{a:Ln}{Q:KV->Le->Prop}{prog:Mi}{w:MW}(hd:(a==NX)=false)(m:gL s.heap a es ep)
  (q:Q (.ref s.heap.objs.size) {s with heap:=s.heap.push {cls:=.type "dict_keyiterator",data:=.fields #[.ref a,.int 0 0,.int es.size 0,.int ep 0]}}):K7 (Lh prog w) A (TC (.ref a)) Q E s:=by
 refine gw m λo H c h=>?_;have t:s.TypeIs (.ref a) "dict":=⟨o,H,c.1⟩;refine wpAny_pyIter_slot t Qq (MK Qq t PySem.F.entry_dict_iter ?_ (PySem.F.args_dict_iter_1 _));unfold Builtin.«dict.__iter__»;refine KN ?_;unfold Tv;refine KN (RG t ((KY (?_ :K7 _ _ (PY a>>=_) _ _ s)):K7 _ _ (pure (MG a)) _ _ s));unfold PY;refine Z (if_neg (by exact Z hd L9)) (KN (KY (KN (OI H h (KN (QC H h (KN (M8 (KY ⟨_,rfl,"dict_keyiterator",_,⟨_,La _ rfl,rfl⟩,Mr.lookup,?_⟩)))))))));simpa[Nu] using q
theorem te{es:Array MF}{e:MF}{Q:Option KV->Le->Prop}{prog:Mi}{w:MW}(h:s.heap.IsKeyIter I a i es.size ep)(m:gL s.heap a es ep)(x:es[i]? =U e)
  (q:∀h',h'.IsKeyIter I a (i+1) es.size ep->MP I s.heap h'->Q (U e.key) {s with heap:=h'}):K7 (Lh prog w) A (Oo (.ref I)) Q E s:=by
 refine gw (id h) λo b c hd=>gw m λg d f D=>?_;unfold Oo;refine KN (PN (MO (name:=KR "__next__") h.typeIs Mr (MK Mr h.typeIs O3 (KN (KY (KN (KN ?_)))) (OX _))))
 first |refine KN (Nh h.typeIs (KY ?_)) |refine KN (NQ h.typeIs (KY ?_))
 refine KN (TA b hd ?_);dsimp only[(by decide:OL "dict_keyiterator"=false),L',if_false];refine((Z (if_neg ((L9:¬((MG a==Mg)=true)))) (KN (KY (KN (OI d D ?_))))):K7 _ _ (if(MG a==Mg)=true then _ else _) _ _ s);refine Z (if_neg (by simp)) (KN (KY (KN (QC d D (Z (if_neg (by simp)) ?_)))));refine KY ?_;dsimp only
 (refine Z (if_neg ((RB.mpr (LO i):¬((i:Int)<0)))) ?_;(refine Z (Mz _) ?_;rw[x]))
 refine KN ?_
 first |refine KN (Nh h.typeIs (KY ?_)) |refine KN (NQ h.typeIs (KY ?_))
 refine KN (RH h.typeIs ((KN (Pu b hd (by simp) ?_)):K7 _ _ (setField (.ref I) 1 (Nu ((i:Int)+1))>>=_) _ _ s));have H:(s.heap.update I (Obj.mapFields (·.setIfInBounds 1 (Nu ((i:Int)+1))))).IsKeyIter I a (i+1) es.size ep:=
  ⟨_,Ma _ b (Obj.isFreed_of_fields (Obj.data_mapFields hd _)),(Obj.cls_mapFields ..).trans c,by refine Z (Obj.data_mapFields hd _) ?_;simp[Nu]⟩;exact KN (LX (KN (RH (s:={s with heap:=s.heap.update I (Obj.mapFields (·.setIfInBounds 1 (Nu ((i:Int)+1))))}) H.typeIs ((KY (KY ⟨_,rfl,KY (q _ H (Mv ..))⟩)):K7 _ _ (pure e.key) _ _ _))))
theorem wW{es:Array MF}{Q:Option KV->Le->Prop}{prog:Mi}{w:MW}(c:A.handled=KT)(h:s.heap.IsKeyIter I a i es.size ep)(M:gL s.heap a es ep)(x:es.size<=i)
  (q:∀h',LZ I s.heap h'->Q KT {s with heap:=h'}):K7 (Lh prog w) A (Oo (.ref I)) Q E s:=by
 refine gw (id h) λo e C hd=>gw M λf H D d=>?_;unfold Oo;refine KN (PN (MO (name:=KR "__next__") h.typeIs Mr (MK Mr h.typeIs O3 (KN (KY (KN (KN ?_)))) (OX _))))
 first |refine KN (Nh h.typeIs (KY ?_)) |refine KN (NQ h.typeIs (KY ?_))
 refine KN (TA e hd ?_);dsimp only[(by decide:OL "dict_keyiterator"=false),L',if_false];refine((Z (if_neg ((L9:¬((MG a==Mg)=true)))) (KN (KY (KN (OI H d ?_))))):K7 _ _ (if(MG a==Mg)=true then _ else _) _ _ s);refine Z (if_neg (by simp)) (KN (KY (KN (QC H d (Z (if_neg (by simp)) ?_)))));refine KY ?_;dsimp only
 (refine Z (if_neg ((RB.mpr (LO i):¬((i:Int)<0)))) ?_;(refine Z (Mz _) ?_;rw[Array.getElem?_eq_none x]))
 refine KN ?_
 first |refine KN (Nh h.typeIs (KY ?_)) |refine KN (NQ h.typeIs (KY ?_))
 refine((KN (Pu e hd (by simp) ?_)):K7 _ _ (setField (.ref I) 0 .none>>=_) _ _ s);refine((KN ?_):K7 _ _ (TD (.type "StopIteration") []>>=_) _ _ _);simp only[TD,newTuple];refine KN (M8 (KN (m:=Pv _ _) (RX (a:=Mg) (by first |rfl |(refine Z Pv ?_;rfl)) ?_)) (by size_fits));refine M8 ((KN (TW ?_)):K7 _ _ (handled>>=_) _ _ _) (by size_fits)
 first |exact iR ((c:A.in1.handled=KT)) rfl |refine Z c ?_
 refine KN (KY (wpAny_throw ?_));refine KN (OV (T:="StopIteration") (b:=true) ⟨_,La _ rfl,rfl⟩ TG ?_);exact KY (q _ (((Mv ..).extBut.push _).push _))
end
section
set_option backward.match.sparseCases true
variable {A:Around} {h:Heap}
theorem rS(R:ij κ H ad h a (.dI es)):∃d ep,gL h a d ep/\aF κ H ad h (ae (es.map (·.1))) (d.toList.map (·.key)):=by
 obtain⟨k,⟨o,d,ep,g,x,hd,K,P,n⟩,f⟩:=R;refine⟨d,ep,⟨o,g,x,hd⟩,?_⟩;clear K n hd x g;generalize d.toList=l at P;revert l;induction f with
 |nil=>intro l P;cases P;simp[ae,aF]
 |@cons p q es k Q _ i=>
  intro l P;cases P with
  |cons b e c=>obtain⟨t,T⟩:=Px b;dsimp only[LC,ae,aF,aJ];exact⟨_,_,rfl,⟨t,by simp only[T,Q.1]⟩,i _ c⟩
theorem we(R:ij κ H ad h a (.dP es)):∃d ep,gL h a d ep/\aF κ H ad h (es.map λe=>V.aA (ae e.1)) (d.toList.map (·.key)):=by
 obtain⟨k,⟨o,d,ep,g,X,hd,K,P,N⟩,f⟩:=R;refine⟨d,ep,⟨o,g,X,hd⟩,Z K ?_⟩;clear K N hd X g;induction f with
 |nil=>simp[aF]
 |@cons p q es k Q _ i=>refine cR (P q KX) λxs n g z j=>?_;simp only[LC,aF,entryOfKey,aJ];exact⟨_,_,rfl,⟨_,xs,n,rfl,Q.2.1,g,z,Z Q.1 (aF.ints.mpr j)⟩,i λx X=>P x (K1 _ X)⟩
theorem wQ{J:Ln}(R:bg κ H ad s)(h:s.heap.objs.size<=J):¬e2 H ad J:=by intro l;refine cY (R.c0 l) λo e=>?_;rw[aW _ h] at e;exact al e
theorem wo(K:fG κ G)(R:bg κ H ad s){j:It}(h:It.start H v=U j)(X:aJ κ H ad s.heap v x){Q:KV->Le->Prop}
  (q:∀I h',s.heap.get? I=KT->(∃o,h'.get? I=U o)->(∀b o,s.heap.get? b=U o->h'.get? b=U o)->kk κ H (ad.a9 I) h' I j->Q (.ref I) {s with heap:=h'}):K7 (Lh κ.prog κ.w) A (TC x) Q E s:=by
 have fr:=aW s.heap (K9 s.heap.objs.size);have k:∀o:Lg,∀b B,s.heap.get? b=U B->(s.heap.push o).get? b=U B:=λo b B e=>K5 o e;have d:∀{a:Ln} {o:Lg},s.heap.get? a=U o->jx H ad a->jx H (ad.a9 s.heap.objs.size) a:=λg i=>⟨i.1,λq=>q.elim (λq=>by replace g:=fr▸q▸g;exact al g) i.2⟩;cases v with
 |fl xs=>cases h;obtain⟨a,ys,n,rfl,m,g,z,f⟩:=X;exact SO ⟨_,g,rfl,n,rfl⟩ (q _ _ fr ⟨_,La _ rfl⟩ (k _) (.inr (.inl ⟨a,ys,n,0,⟨_,La _ rfl,rfl,rfl⟩,d g m,k _ _ _ g,f.aL (cy (k _) fr)⟩)))
 |aA xs=>cases h;obtain⟨a,ys,n,rfl,m,g,z,f⟩:=X;exact PT ⟨_,g,rfl,n,rfl⟩ (q _ _ fr ⟨_,La _ rfl⟩ (k _) (.inl ⟨a,ys,n,0,⟨_,La _ rfl,rfl,rfl⟩,d g m,k _ _ _ g,f.aL (cy (k _) fr)⟩))
 |yC n=>
  (replace h:=KP h;subst h)
  obtain⟨a,t,u,v,rfl,m,g,w,y⟩:=X;have hz:PD 0 n 1=n:=by unfold PD;simp;lia
  have C:(aN:Int)<2^63-1:=by decide
  refine wpAny_pyIter_range g (by unfold Ta;refine Z hz ?_;simp[Tc];lia) (q _ _ fr ⟨_,La _ rfl⟩ (k _) (.inr (.inr ⟨0,?_,?_⟩)))
  ·refine Z (Z (KS _) (Z L0 rfl):((L3 n.toNat).map λ(i:Nat)=>V.int i).length=n.toNat) (Z hz (?_ :_=U _))
   exact Z (Ro w:((n.toNat:Nat):Int)=n) (La s.heap (o:={cls:=.type "range_iterator",data:=.fields #[Nu 0,Nu n,Nu 1]}) rfl)
  ·simp
 |ref r=>
  obtain⟨rfl,p⟩:=X;obtain⟨o,l,h⟩:=bG h;induction o with
  |list xs=>
   (replace h:=KP h;subst h)
   obtain⟨vs,n,g,z,f⟩:=R.obj _ _ l;exact SO ⟨_,g,rfl,n,rfl⟩ (q _ _ fr ⟨_,La _ rfl⟩ (k _) ⟨⟨_,La _ rfl,rfl,rfl⟩,p⟩)
  |dI es=>cases h;obtain⟨D,ep,N,f⟩:=rS (R.obj _ _ l);refine oz (e7 K R (bx l)) N (q _ _ fr ⟨_,La _ rfl⟩ (k _) ⟨D,ep,0,⟨_,La _ rfl,rfl,rfl⟩,p,K9 _,λ_ _=>?_,f.aL (cy (k _) fr)⟩);obtain⟨o,g,c⟩:=N;exact⟨o,k _ _ _ g,c⟩
  |dP es=>cases h;obtain⟨D,ep,N,f⟩:=we (R.obj _ _ l);refine oz (e7 K R (bx l)) N (q _ _ fr ⟨_,La _ rfl⟩ (k _) ⟨D,ep,0,⟨_,La _ rfl,rfl,rfl⟩,p,K9 _,λ_ _=>?_,f.aL (cy (k _) fr)⟩);obtain⟨o,g,c⟩:=N;exact⟨o,k _ _ _ g,c⟩
  |_=>exact al h
 |_=>exact al h
theorem jZ{a:Type}{l:List a}{v:a}{r:List a}(h:l.drop i=v::r):l[i]? =U v/\l.drop (i+1)=r:=by
 constructor
 ·have:(l.drop i)[0]? =U v:=by refine Z h ?_;rfl
  simpa using this
 ·refine Z (Z Sm rfl:l.drop (i+1)=(l.drop i).drop 1) (Z h ?_);rfl
theorem n2{a:Type}{l:List a}(h:l.drop i=[]):l.length<=i:=by simpa using h
theorem Kz(x:h.IsTupleIter a t i):∃o,h.get? a=U o:=let ⟨o,e,_⟩:=x;⟨o,e⟩
theorem JO(x:h.IsListIter a t i):∃o,h.get? a=U o:=let ⟨o,e,_⟩:=x;⟨o,e⟩
theorem Ks(x:h.IsKeyIter a t i n m):∃o,h.get? a=U o:=let ⟨o,e,_⟩:=x;⟨o,e⟩
theorem AN(c:A.handled=KT)(it:s.heap.IsTupleIter I t i)(m:jx H ad t)(g:s.heap.get? t=U {cls:=.type "tuple",data:=.seq xs n})(f:aF κ H ad s.heap l (xs.toList.drop i))(z:ad.z I){o:Option (V×It)}(h:It.next H (.bo l)=U o){Q:Option KV->Le->Prop}
  (a:o=KT->∀h',LZ I s.heap h'->Q KT {s with heap:=h'})
  (b:∀v j x h' t,o=U (v,j)->LZ I s.heap h'->(∃B,h'.get? I=U B)->aJ κ H ad h' v x->kk κ H ad h' I j->Q (U x) {s with heap:=h',toks:=t}):K7 (Lh κ.prog κ.w) A (Oo (.ref I)) Q E s:=by
 cases l with
 |nil=>
  (replace h:=KP h;clear b;subst h)
  exact wpAny_pyNext_tuple_end c it ⟨_,g,rfl,n,rfl⟩ (by simpa using(n2 f)) (a rfl)
 |cons v l=>clear a;obtain rfl:=KP h;obtain⟨x,r,e,R,f⟩:=f;exact ay (jZ e) λd p=>wpAny_pyNext_tuple_item it ⟨_,g,rfl,n,rfl⟩ (by simpa using d) λh' T k=>b _ _ _ _ _ rfl k.extBut (Kz T) (R.aL (di z k.extBut)) (.inl ⟨t,xs,n,i+1,T,m,k.extBut _ _ (λq=>m.2 (Z q z)) g,Z p (f.aL (di z k.extBut))⟩)
theorem yV(c:A.handled=KT)(it:s.heap.IsListIter I t i)(m:jx H ad t)(g:s.heap.get? t=U {cls:=.type "list",data:=.seq xs n})(f:aF κ H ad s.heap l (xs.toList.drop i))(z:ad.z I){o:Option (V×It)}(h:It.next H (.bo l)=U o){Q:Option KV->Le->Prop}
  (a:o=KT->∀h',LZ I s.heap h'->Q KT {s with heap:=h'})
  (b:∀v j x h' t,o=U (v,j)->LZ I s.heap h'->(∃B,h'.get? I=U B)->aJ κ H ad h' v x->kk κ H ad h' I j->Q (U x) {s with heap:=h',toks:=t}):K7 (Lh κ.prog κ.w) A (Oo (.ref I)) Q E s:=by
 cases l with
 |nil=>
  (replace h:=KP h;clear b;subst h)
  exact RE c it ⟨_,g,rfl,n,rfl⟩ (by simpa using(n2 f)) (a rfl)
 |cons v l=>clear a;obtain rfl:=KP h;obtain⟨x,r,e,R,f⟩:=f;exact ay (jZ e) λd p=>Rq it ⟨_,g,rfl,n,rfl⟩ (by simpa using d) λh' T k=>b _ _ _ _ _ rfl k.extBut (JO T) (R.aL (di z k.extBut)) (.inr (.inl ⟨t,xs,n,i+1,T,m,k.extBut _ _ (λq=>m.2 (Z q z)) g,Z p (f.aL (di z k.extBut))⟩))
theorem AP(b:A.handled=KT){x:Nat}{l:List V}(it:IsRangeIter s.heap I x l.length 1)(e:l=(L3 l.length).map λ(k:Nat)=>V.int ((x+k:Nat):Int)){o:Option (V×It)}(h:It.next H (.bo l)=U o){Q:Option KV->Le->Prop}
  (q:o=KT->∀h',LZ I s.heap h'->Q KT {s with heap:=h'})
  (a:∀v j x h' t,o=U (v,j)->LZ I s.heap h'->(∃B,h'.get? I=U B)->aJ κ H ad h' v x->kk κ H ad h' I j->Q (U x) {s with heap:=h',toks:=t}):K7 (Lh κ.prog κ.w) A (Oo (.ref I)) Q E s:=by
 cases l with
 |nil=>(replace h:=KP h;clear a;subst h);exact wpAny_pyNext_range_end b it (by simp) (q rfl)
 |cons v l=>
  clear q;obtain rfl:=KP h;simp only[LK,List.range_succ_eq_map,LC,QJ] at e;injection e with c d;refine wpAny_pyNext_range_item it (by simp) λh' i k=>a _ _ _ _ _ rfl k.extBut ⟨_,i⟩ (Z c ⟨s.toks,rfl⟩) (.inr (.inr ⟨x+1,?_,?_⟩));·simpa using i
  ·(refine Z d ?_;(refine Z (KS _) ?_;rw[L0]))
   exact My λk _=>congrArg (λn:Nat=>V.int (n:Int)) ((Md (bM (gF _ _) 0x111387181137 rfl) (bM (gF _ _) 0x181137111387 rfl)):x+(k+1)=x+1+k)
theorem mM(p:A.handled=KT)(R:bg κ H ad s)(a:ad.z I){o:Option (V×It)}(h:It.next H j=U o)(it:kk κ H ad s.heap I j){Q:Option KV->Le->Prop}
  (b:o=KT->∀h',LZ I s.heap h'->Q KT {s with heap:=h'})
  (d:∀v L x h' t,o=U (v,L)->LZ I s.heap h'->(∃N,h'.get? I=U N)->aJ κ H ad h' v x->kk κ H ad h' I L->Q (U x) {s with heap:=h',toks:=t}):K7 (Lh κ.prog κ.w) A (Oo (.ref I)) Q E s:=by
 induction j with
 |c0 r i=>
  refine ay it λit F=>?_;obtain⟨xs,X,h⟩:=fz h;obtain⟨N,G,X⟩:=bG X;replace G:=(vK X)▸G;obtain⟨vs,n,g,z,f⟩:=R.obj _ _ G;induction m:xs[i]?with
  |some v=>replace h:=m▸h;refine aD (f.get m) λx X J=>Rq it ⟨_,g,rfl,n,rfl⟩ (by simpa using X) λh' T k=>d _ _ _ _ _ h.symm k.extBut (JO T) (J.aL (di a k.extBut)) ⟨T,F⟩
  |none=>replace h:=m▸h;refine RE p it ⟨_,g,rfl,n,rfl⟩ ?_ (b h.symm);simp only[Ol,<-Lq,<-f.length];exact Qv.mp m
 |bo l=>exact K4 it (λu=>ta u λt xs n i it M g f=>AN p it M g f a h b d) λy=>K4 y (λB=>ta B λt xs n i it M g f=>yV p it M g f a h b d) λC=>aD C λx it e=>AP p it e h b d
 |dict r v l=>
  obtain⟨es,ep,i,it,F,m,P,f⟩:=it;replace h:(if H.e4 r=v/\(H.o r).isSome=true then(match l with |[]=>U KT |w::S=>U (U (w,It.dict r v S))) else KT)=U o:=h;by_cases c:H.e4 r=v/\(H.o r).isSome=true
  ·replace h:=(if_pos c)▸h
   have W:=P c.1 c.2;induction l using LP with
   |nil=>
    (replace h:=KP h;clear d;subst h)
    exact wW p it W (by simpa using(n2 (Rc.mp f))) (b rfl)
   |cons v' S=>
    clear b;obtain rfl:=KP h;obtain⟨x,rr,e,J,f⟩:=f;induction hd:es.toList.drop i using LP with
    |nil=>replace e:=hd▸e;cases e
    |cons ac aa=>
     replace e:=hd▸e;injection e with K D;subst K;refine ay (jZ hd) λd1 d2=>te it W (by simpa using d1) λh' T k=>d _ _ _ _ s.toks rfl k.extBut (Ks T) (J.aL (di a k.extBut)) ⟨es,ep,i+1,T,F,m,λK D=>aD (P K D) λo g c'=>⟨o,k.extBut _ _ (λq=>(R.zf I a:¬e2 H ad I) ⟨r,D,q⟩) g,c'⟩,?_⟩
     ·refine Z d2 ?_
      simp only[<-D] at f;exact f.aL (di a k.extBut)
  ·replace h:=(if_neg c)▸h;exact al h
theorem qm{cU:Prop}{go:V->It->Prop}(h:oi o cU go):(o=U KT/\cU)\/∃v j,o=U (U (v,j))/\go v j:=by
 induction o with
 |none=>exact h.elim
 |some p=>induction p with
  |none=>exact .inl ⟨rfl,h⟩
  |some p=>exact .inr ⟨p.1,p.2,rfl,h⟩
inductive GC(κ:ds)(nm:Nm)(gl:Gl)(env:Py)(ad:Ad)(H:Hp)(h:Heap)(W:aV->Hp->Prop)(s:Le):Prop
 |mk (a:Ad) (b:Hp) (c:aV) (q:W c b) (V:h4 κ nm gl env c b a s.heap) (R:bg κ b a s) (S:Step (FX env) ad H h a b s.heap)
theorem rb{c:Ex}(X:ST κ G C d c)(Z:DJ κ G C d b):SS κ G C d (.while c b):=by
 intro e' nm gl hc A E env J Q H ad s P V R W;refine cY W λn W=>ay (bu hc) λh1 h2=>wpAny_While (codeAny_whileLoop (λm S=>GC κ nm gl env ad H s.heap (λJ H=>qo (λJ Q h=>c.rQ G C J Q h) (λJ Q h=>St.bh G C b J Q h) m J Q H) S) (λm S p=>?_) n ⟨ad,H,J,W,V,R,Step.refl⟩);obtain⟨I,K,a,q,k,l,L⟩:=p;induction m using MT with
 |zero=>exact q.elim
 |succ m=>
  refine Lc (X _ nm gl h1 A _ env a _ K I S P k.toEnvR l q) (λt M p=>?_) λ_ _ y=>y;obtain⟨D,o,q,r,u⟩:=p;have w:=k.step u r.au;have e:=L.trans u.fx l.au;induction t with
  |true=>
   refine Lc (Z _ nm gl h2 A _ env a _ o D M P w r q) (λf T p=>?_) λ_ _ y=>y;obtain⟨g,z,i,fl,q,fr,B,F,N⟩:=p;have j:=e.trans N r.au;induction fl with
   |next=>
    obtain rfl:f=.next:=fr
    exact⟨m,L7 m,g,z,i,q,B,F,j⟩
   |ret v=>obtain⟨x,rfl,rx⟩:=fr;exact⟨g,z,i,.ret v,q,⟨x,rfl,rx⟩,B,F,j⟩
  |false=>exact QB ⟨D,o,a,.next,zM q,rfl,w,r,e⟩
theorem kW{R:Result->Le->Prop}{t it B o env}{prog:Mi}{w:MW}(J:Nat->Le->Prop)
  (turn:∀n s,J n s->K7 (Lh prog w) A (Oo it) (λr S=>match r with
   |none=>K7 (Lh prog w) A (execs o env) (λf a=>R (.ok f) a) (Rs (Lh prog w) A env λe s'=>R (.error e) s') S
   |some v=>K7 (Lh prog w) A (Tp t it v) (λ_ S=>K7 (Lh prog w) A (QP t env v) (λ_ c=>K7 (Lh prog w) A (execs B env) (λf a=>match f with
     |.next |.cont=>∃m,m<n/\J m a
     |.brk=>R (.ok .next) a
     |.ret v=>R (.ok (.ret v)) a) (Rs (Lh prog w) A env λe s'=>R (.error e) s') c) (Rs (Lh prog w) A env λe s'=>R (.error e) s') S) (Rs (Lh prog w) A env λe s'=>R (.error e) s') S) (Rs (Lh prog w) A env λe s'=>R (.error e) s') s)
  (n:Nat)(h:J n s):O' (Lh prog w) A (.forLoop t it B o env) R s:=by
 refine codeAny_loop' rfl J (λn s i=>((wpAny_noted ?_):K7 _ _ ((forTurn t it B o env).onRaise (λx=>do noteFrame x env;theTreesLotGoes x)) _ _ s)) n h;simp only[forTurn];refine KN (MZ (KN (ON (Lc (turn n s i) (λr S H=>?_) λ_ _ h'=>MZ h'))));induction r with
 |none=>exact KY (.inr ⟨rfl,codeAny_block H⟩)
 |some v=>
  refine KN (Lc H (λ_ S H=>KN (Lc H (λ_ c d=>KN (Lc d (λf a b=>?_) λ_ _ h'=>h')) λ_ _ h'=>h')) λ_ _ h'=>h');induction f with
  |next=>exact KY (.inl ⟨rfl,b⟩)
  |cont=>exact KY (.inl ⟨rfl,b⟩)
  |brk=>exact KY b
  |ret v=>exact KY b
theorem kk.obj(it:kk κ H ad h I j):∃o vs T,h.get? I=U o/\o.cls=.type T/\o.data=.fields vs/\(T="list_iterator"\/T="tuple_iterator"\/T="range_iterator"\/T="dict_keyiterator"):=by
 induction j with
 |c0 r i=>exact ay it λb _=>gw b λo g c d=>⟨o,_,_,g,c,d,.inl rfl⟩
 |bo l=>
  rcases it with⟨t,xs,n,i,⟨o,g,c,d⟩,_⟩ |⟨t,xs,n,i,⟨o,g,c,d⟩,_⟩ |⟨x,g,e⟩
  ·exact⟨o,_,_,g,c,d,.inr (.inl rfl)⟩
  ·exact⟨o,_,_,g,c,d,.inl rfl⟩
  ·exact⟨_,_,_,g,rfl,rfl,.inr (.inr (.inl rfl))⟩
 |dict r v l=>exact ts it λes ep i B _=>gw B λo g c d=>⟨o,_,_,g,c,d,.inr (.inr (.inr rfl))⟩
set_option tactic.hygienic true in
theorem z9{t:Tg}(it:kk κ H ad s.heap I j){Q:Unit->Le->Prop}(q:Q () s):K7 M A (Tp (t.py nm y) (.ref I) x) Q E s:=by
 refine rk it.obj λo vs T g c d h=>?_
 have key:∀a:Ln,K7 M A (do
   let o<-load I
   match o.cls,o.data with
   |.type n,.fields vs=>
    if["enumerate","zip","dict_itemiterator","dict_reverseitemiterator","odict_iterator","itertools.zip_longest","itertools.pairwise"].contains n&&vs[0]? ==U (Nu a) then
     rule "for.unpacks-the-owned-tuple"
     updateField I 0 .none
   |_,_=>pure ()) Q E s:=by
  intro a
  refine KN (wpAny_load g (Z c (Z d ?_)))
  clear c
  rcases h with rfl |rfl |rfl |rfl<;>exact KY q
 cases t with
 |aA=>induction x<;>first |exact KY q |exact key _
 |_=>exact KY q
theorem DX(m:Ex)(nm:Nm)(e:K0)(env:Py)(v:KV):SQ (m.py nm e) env v=pure v:=by
 cases m with
 |aE c=>cases c with
  |int i=>refine(?_ :SQ (if i<0 then _ else _) env v=_);split<;>rfl
  |_=>rfl
 |bi b=>induction b<;>rfl
 |_=>rfl
inductive HU(κ:ds)(nm:Nm)(gl:Gl)(env:Py)(ad:Ad)(H:Hp)(h:Heap)(I:Ln)(W:It->aV->Hp->Prop)(s:Le):Prop
 |mk (a:Ad) (b:Hp) (c:aV) (j:It) (q:W j c b) (V:h4 κ nm gl env c b a s.heap) (R:bg κ b a s) (it:kk κ b a s.heap I j) (S:Step (FX env) ad H h a b s.heap)
theorem vG(KO:fG κ G)(it:SG κ G C d t)(ie:SE κ G C d e)(ib:DJ κ G C d b):SS κ G C d (.for t e b):=by
 intro e' nm gl hc A E env J Q H ad s hA V R hw;refine og hc λc1 c2 c3=>wpAny_For (Lc (ie _ nm gl c2 A E env J _ H ad s hA V.toEnvR R hw) (λxv M p=>?_) λ_ _ y=>y) ?_
 ·obtain⟨a,i,v,q,rx,g,N⟩:=p
  obtain⟨j,hj,n,q⟩:=aQ q;refine wo KO g hj rx λI h' hI bs kp ij=>?_;have c:bg κ i (a.a9 I) {M with heap:=h'}:=g.a9 kp rfl rfl hI bs;have u:h4 κ nm gl env J i (a.a9 I) h':=(V.step N g.au).a9 kp hI;have nz:¬a.z I:=λz=>by obtain⟨o,e⟩:=g.lD I z;rw[hI] at e;exact al e
  have bD:¬e2 i a I:=λl=>by obtain⟨o,e⟩:=g.c0 l;rw[hI] at e;exact al e
  have S:Step (FX env) (a.a9 I) i M.heap (a.a9 I) i h':=Step.keeps kp λr hr=>g.c0 ⟨r,hr,rfl⟩;have P:=ij;refine kW (λm F=>HU κ nm gl env (a.a9 I) i M.heap I (λj J H=>dr (λv J Q h=>Tg.wp G C t v J Q h) (λJ Q h=>St.bh G C b J Q h) m j J Q H) F) (λm F p=>?_) n ⟨_,i,J,j,q,u,c,P,S⟩;clear P S c u q ij hj;obtain⟨D,ag,T,j,q,u,c,ij,S⟩:=p;have ea:=S.mI;have zI:D.z I:=Z ea (.inl rfl);induction m using MT with
  |zero=>exact q.elim
  |succ m=>
   refine K4 (qm q) (λa2=>ay a2 λhn q=>?_) λa3=>eB a3 λv j' hn q=>?_
   ·refine mM hA.handled c zI hn ij (λ_ an k=>QB ?_) (λ_ _ _ _ _ e=>al e)
    rw[ea] at u c;have w:=c.iY nz k F.toks;exact⟨⟨D.f,a.z⟩,ag,T,.next,q,rfl,u.iY k,w,N.fx.trans ((S.hY hI k (Z ea (c.pK (.inl rfl)))).Hc) g.au⟩
   ·refine mM hA.handled c zI hn ij (λe=>al e.symm) (λv' bL xv an tk e k ex rv bd=>?_)
    (cases KP e)
    have w:=c.t8 zI k ex tk;refine z9 (s:={F with heap:=an,toks:=tk}) bd (Lc (it _ nm gl c1 A _ env T _ ag D _ v xv hA (u.t8 zI k) w rv q) (λ_ bi p=>?_) λ_ _ y=>y);obtain⟨W,bk,a1,q,bn,K,X⟩:=p;refine Lc (ib _ nm gl c3 A _ env a1 _ bk W bi hA bn K q) (λf bw p=>?_) λ_ _ y=>y;obtain⟨aa,ap,ac,fl,q,fr,af,L,as⟩:=p;have z4:W.z I:=Z X.z zI;have B:=((S.hY hI k (c.pK zI)).trans X w.au).trans as K.au;induction fl with
    |next=>
     obtain rfl:f=.next:=fr
     exact⟨m,L7 m,aa,ap,ac,j',q,af,L,((bd.step X K.au (w.zf I zI)).step as L.au (K.zf I z4)),B⟩
    |ret v=>obtain⟨x,rfl,rx⟩:=fr;rw[B.mI] at af L rx;exact⟨⟨aa.f,a.z⟩,ap,ac,.ret v,q,⟨x,rfl,rx.aL fq⟩,af.iY (Heap.ExtBut.Hv),L.w4,N.fx.trans B.Hc g.au⟩
 ·intro x
  exact DX _ _ _ env x
end
variable {L:Addr}
section
variable {A:Around} {h:Heap}
noncomputable def ph(env:Py):List (K3×Mp)->List (K3×Ln)->List (K3×Ln)
 |[],cs=>cs
 |(n,k)::r,cs=>if(k==.free)=true then match env.cells.lookup n with
   |some c=>ph env r ((n,c)::cs)
   |none=>ph env r cs
  else ph env r cs
theorem kA{n:K3}{k:Mp}{r:List (K3×Mp)}:ph env ((n,k)::r) cs=if(k==.free)=true then match env.cells.lookup n with |some c=>ph env r ((n,c)::cs) |none=>ph env r cs else ph env r cs:=rfl
set_option tactic.hygienic true in
theorem CD{l:List (K3×Mp)}(h:∀p∈l,p.2=.free->(env.cells.lookup p.1).isSome=true):∀cs:List (K3×Ln),
  (forIn l cs (λx cs=>match x with |(name,K)=>if(K==.free)=true then do let c<-TJ env name;pure (Mk ((name,c)::cs)) else pure (Mk cs)):S7 (List (K3×Ln)))=pure (ph env l cs):=by
 induction l with
 |nil=>intro cs;rfl
 |cons p l i=>
  intro cs
  obtain⟨n,k⟩:=p
  (rw[Nf];refine Z kA ?_)
  dsimp only
  have i:=i λp P=>h p (K1 _ P)
  split
  ·rename_i c
   refine cY (LY.mp (h _ KX (eq_of_beq c))) λa H=>?_
   have e:TJ env n=pure a:=by delta TJ;rw[H]
   rw[e,pure_bind,H]
   exact i _
  ·exact Z (pure_bind _ _) (i _)
theorem uo{s:Pj}(h:∀p∈s.names,p.2=.free->(env.cells.lookup p.1).isSome=true):closureFor s env=pure (ph env s.names []):=by unfold closureFor;simp only;refine Z ((CD h []):(forIn s.names ([]:List (K3×Ln)) λx cs=>if(x.snd==Na)=true then do let c<-TJ env x.fst;pure (Mk ((x.fst,c)::cs)) else pure (Mk cs):S7 (List (K3×Ln)))=pure (ph env s.names [])) ?_;rfl
set_option tactic.hygienic true in
theorem xC:∀{cs:List (K3×Ln)},(∀p∈cs,env.cells.lookup p.1=U p.2)->∀p∈ph env l cs,env.cells.lookup p.1=U p.2:=by
 induction l with
 |nil=>intro cs h;exact h
 |cons q l i=>
  intro cs h
  obtain⟨n,k⟩:=q
  simp only[kA]
  split
  ·split
   ·rename_i c C
    refine i λp H=>?_
    rcases KZ.mp H with rfl |H
    ·exact C
    ·exact h p H
   ·exact i h
  ·exact i h
theorem Cw:∀{cs:List (K3×Ln)},∀p∈cs,p∈ph env l cs:=by
 induction l with
 |nil=>intro cs p h;exact h
 |cons q l i=>
  intro cs p h;obtain⟨n,k⟩:=q;simp only[kA];split
  ·split
   ·exact i _ (K1 _ h)
   ·exact i _ h
  ·exact i _ h
theorem Cx{l:List (K3×Mp)}{c:Ln}(H:env.cells.lookup y=U c):∀{cs:List (K3×Ln)},(y,Na)∈l->(y,c)∈ph env l cs:=by
 induction l with
 |nil=>intro cs h;cases h
 |cons q l i=>
  intro cs h;obtain⟨n,k⟩:=q;simp only[kA];refine K4 (KZ.mp h) (λe=>?_) λh=>?_
  ·clear h;obtain⟨rfl,rfl⟩:=LQ e
   exact Z (if_pos (show(Na==Na)=true from rfl)) (Z H (Cw _ KX))
  ·split
   ·split
    ·exact i h
    ·exact i h
   ·exact i h
theorem s6{K V:Type}[BEq K][LawfulBEq K]{l:List (K×V)}{y:K}{c:V}(h:(y,c)∈l):∃c',l.lookup y=U c':=by
 induction l with
 |nil=>cases h
 |cons q l i=>
  obtain⟨a,b⟩:=q;simp only[L5];induction H:y==a with
  |true=>exact⟨b,rfl⟩
  |false=>
   refine K4 (KZ.mp h) (λe=>?_) λh=>i h
   (injection e with e;clear h;subst e);simp at H
theorem cz{K V:Type}[BEq K][LawfulBEq K]{l:List (K×V)}{y:K}{c:V}(h:l.lookup y=U c):(y,c)∈l:=by
 induction l with
 |nil=>exact al h
 |cons q l i=>
  obtain⟨a,b⟩:=q;simp only[L5] at h;induction H:y==a with
  |true=>rw[H] at h;(replace h:=KP h;clear i;subst h);exact Z (eq_of_beq H) KX
  |false=>rw[H] at h;exact K1 _ (i h)
theorem kt{K V:Type}[BEq K][LawfulBEq K]{l:List (K×V)}(H:(l.map (·.1)).Nodup){y:K}{c:V}(h:(y,c)∈l):l.lookup y=U c:=by
 induction l with
 |nil=>cases h
 |cons q l i=>
  obtain⟨a,b⟩:=q;simp only[LC,Ll] at H;simp only[L5];refine K4 (KZ.mp h) (λe=>?_) λh=>?_;·clear H h;obtain⟨rfl,rfl⟩:=LQ e;simp
  ·have:y≠a:=λe=>H.1 (LG.mpr ⟨(y,c),h,e⟩)
   exact Z (show(y==a)=false by simpa using this) (i H.2 h)
theorem vW{l:List (K3×Mp)}{c:Ln}(C:env.cells.lookup y=U c)(h:(y,Na)∈l):(ph env l []).lookup y=U c:=by
 refine cY (s6 (Cx (cs:=[]) C h)) λc' H=>?_;have:=xC (env:=env) (l:=l) (cs:=[]) (λ_ h=>nomatch h) _ (cz H);replace this:=C▸this
 (replace this:=KP this;subst this)
 exact H
noncomputable def AM(env:Py)(n:K3)(k:Mp):Mp:=if(k==.free&&env.scope.kind==.function&&env.kindOf n==U .cell)=true then .cell else k
theorem ma{g:K3->Mp->Mp}:∀l:List (K3×Mp),(l.map λp=>(p.1,g p.1 p.2)).lookup y=(l.lookup y).map (g y)
 |[]=>rfl
 |(n,k)::l=>by
  simp only[LC,L5,L5];induction h:y==n with
  |true=>refine Z (eq_of_beq h) ?_;rfl
  |false=>exact ma l
theorem ew{s:Pj}:(Rr s env).names.lookup y=(s.names.lookup y).map (AM env y):=by simp only[<-ma];refine(?_ :(s.names.map _).lookup y=_);congr 1;refine My λp _=>?_;obtain⟨n,k⟩:=p;dsimp only[AM];split<;>rfl
theorem p9{n:K3}{v j:Nat}{T:Nm}(h:Th y ((n,v)::T)=U j):(y=n/\v=j)\/T.lookup y=U j:=by
 simp only[L5] at h;induction H:y==n with
 |true=>replace h:=H▸h;exact .inl ⟨eq_of_beq H,KP h⟩
 |false=>replace h:=H▸h;exact .inr h
theorem tF{j:Nat}:∀{l:List (K3×Mp)},(b0 nm x i l).lookup y=U j->(y=x/\j=i)\/(y≠x/\(y,Na)∈l/\nm.lookup y=U j):=by
 intro l;induction l with
 |nil=>intro h;exact al h
 |cons p r I=>
  obtain⟨n,k⟩:=p;intro h;have up:((y=x/\j=i)\/(y≠x/\(y,Na)∈r/\nm.lookup y=U j))->((y=x/\j=i)\/(y≠x/\(y,Na)∈(n,k)::r/\nm.lookup y=U j)):=λh=>h.imp id λh=>⟨h.1,K1 _ h.2.1,h.2.2⟩;have h:Th y (if(n==x)=true then(n,i)::b0 nm x i r else _)=U j:=h;by_cases c:(n==x)=true
  ·replace h:=(if_pos c)▸h
   exact(p9 h).elim (λe=>.inl ⟨e.1.trans (eq_of_beq c),e.2.symm⟩) λh=>up (I h)
  ·rw[if_neg c] at h
   induction k with
   |free=>
    induction H:nm.lookup n with
    |none=>replace h:=H▸h;exact up (I h)
    |some J=>rw[H] at h;exact(p9 h).elim (λe=>.inr ⟨λz=>c (beq_iff_eq.mpr (e.1.symm.trans z)),Z e.1 KX,e.1▸hR e.2 H⟩) λh=>up (I h)
   |_=>exact up (I h)
structure ji(s:Pj)(x:K3)(i:Nat)(nm:Nm)(gl:Gl):Prop where
 kind:s.kind=.function
 hH:(s.names.map (·.1)).Nodup
 hx:s.names.lookup x=U .local
 H6:∀p∈nm,p.2≠i
 all:∀p∈s.names,p.2=.local\/p.2=.globalImplicit\/(p.2=.free/\(nm.lookup p.1).isSome=true/\gl.cells.contains p.1=true)
theorem Bc{s:Pj}(h:mO s x i nm gl=true):ji s x i nm gl:=by
 simp only[mO,LL,beq_iff_eq,decide_eq_true_eq,L6,bne_iff_ne,MA] at h;refine ay h λb H=>ay b λB a=>?_;obtain⟨⟨c,d⟩,e⟩:=B;refine⟨c,d,e,a,λp P=>?_⟩;rcases H p P with((h |h) |h) |h
 ·exact .inl h.2
 ·exact .inl h.2
 ·exact .inr (.inl h)
 ·exact .inr (.inr ⟨h.1.1,h.1.2,h.2⟩)
theorem ji.cell{s:Pj}{x:K3}{i:Nat}(o:ji s x i nm gl)(V:EnvR κ nm gl env J H ad h){p:K3×Mp}(P:p∈s.names)(K:p.2=.free):
  ∃j c,nm.lookup p.1=U j/\(env.kindOf p.1=U .cell\/env.kindOf p.1=U .free)/\env.cells.lookup p.1=U c/\jx H ad c/\(∃w,h.IsCell c w)/\∀v,(J[j]?).join=U v->∃y,h.IsCell c (U y)/\aJ κ H ad h v y:=by
 refine K4 (o.all p P) (λq=>?_) λr=>K4 r (λq=>?_) λR=>cH R λ_ Q g=>cY (LY.mp Q) λj e=>K4 (V.var _ _ e) (λa=>ay a λk _=>absurd k (V.ck _ g)) λb=>ay b λk d=>ll d λc C I w f=>⟨j,c,e,k,C,I,w,f⟩;·rw[K] at q;exact(nomatch q)
 ·rw[K] at q;exact(nomatch q)
theorem g5{K W:Type}[BEq K][LawfulBEq K]{l:List (K×W)}(H:(l.map (·.1)).Nodup){p:K×W}(h:p∈l):l.lookup p.1=U p.2:=kt H h
theorem yI{s:Pj}(q:ji s x i nm gl)(V:EnvR κ nm gl env J H ad h){m:K3->Option KV}(n:h.Ns L m){X:KV}(M:m x=U X)(r:aJ κ H ad h v X)
  (I:jx H ad L)(A:κ.base.objs.size<=L):EnvR κ (b0 nm x i s.names) (lb gl.gH s) (RZ s (ph env s.names []) L env) (J.set i (U v)) H ad h where
 kind:=q.kind
 v8:=V.v8
 blt:=V.blt
 ns:=⟨m,n⟩
 above:=A
 im:=I
 var:=λy j b=>by
  have d:∀z,(RZ s (ph env s.names []) L env).kindOf z=(s.names.lookup z).map (AM env z):=λz=>ew;rcases tF b with⟨rfl,rfl⟩ |⟨N,F,g⟩
  ·refine .inl ⟨?_,λw W=>?_⟩
   ·simp only[d,q.hx];rfl
   ·by_cases cQ:j<J.length
    ·rw[OM cQ] at W
     (replace W:=KP W;subst W)
     exact⟨m,X,n,M,r⟩
    ·rw[N6 (by simpa using cQ)] at W
     exact al W
  ·refine Gq (q.cell V F rfl) λo c a k C l w f=>?_
   simp only at a k C f;rw[g] at a
   (replace a:=KP a;subst a)
   refine Z (O5 (λe=>q.H6 _ (cz g) e.symm:i≠j)) (.inr ⟨?_,c,vW C F,l,w,f⟩);simp only[d,kt q.hH F];simp only[Oa,AM];split;·exact .inl rfl
   ·exact .inr rfl
 c4:=λy b=>by refine((Z ew ?_):(Rr s env).names.lookup y=_);simp only[lb,Gl.contains,wk,Q8,LG,MM,beq_iff_eq,decide_eq_true_eq] at b;obtain⟨p,⟨P,K⟩,rfl⟩:=b;refine Z (g5 q.hH P) (Z K ?_);rfl
 gH:=V.gH
 ck:=λy b=>by
  refine((Z ew ?_):(Rr s env).names.lookup y≠_);simp only[lb,w5,Q8,LG,MM,MA,beq_iff_eq,decide_eq_true_eq] at b;obtain⟨p,⟨P,K⟩,rfl⟩:=b;refine Z (g5 q.hH P) ?_;simp only[Oa,AM,ne_eq,OZ];refine K4 K (λK=>?_) λK=>?_;·refine Z K ?_;split<;>exact λe=>nomatch e
  ·refine Z K ?_;split<;>exact λe=>nomatch e
theorem u0(R:bg κ H (ad.a9 D) s)(N:¬ad.z D)(h:κ.base.get? D=KT)(g:s.heap.get? D=U {cls:=.type "list",data:=.seq vs n})(z:vs.size<=LV)
  (f:aF κ H (ad.a9 D) s.heap xs vs.toList)(S:Step X Uq Uo Ul ad H s.heap)(d:Ul.get? D=KT){Q:PV}(q:newList xs Q H):
  ∃ad' H' v,Q v H'/\aJ κ H' ad' s.heap v (.ref D)/\bg κ H' ad' s/\Step X Uq Uo Ul ad' H' s.heap/\ad'.z=ad.z/\∀a,e2 H' ad' a->e2 H ad a\/a=D:=by
 unfold ai.newList at q;refine K4 q.2 (λq=>⟨ad,H,_,q,⟨D,vs,n,rfl,⟨R.zf D (.inl rfl),N⟩,g,z,f.aL fq⟩,R.w4,S,rfl,λa l=>.inl l⟩) λb=>g1 b λk t q=>?_
 ·refine⟨ad.aH ⟨k,t,H.n⟩ D,H.new k t (.list xs),_,q,?_,R.aH N h (x:=.list xs) ⟨vs,n,g,z,f⟩,S.aH R.au d,rfl,λa l=>?_⟩
  ·simp[aJ,Ad.aH,Hp.new]
  ·refine aD l λr i e=>?_
   by_cases c:r=⟨k,t,H.n⟩;·exact .inr (by simpa[Ad.aH,c] using e.symm)
   ·exact .inl ⟨r,by simpa[Hp.new,c] using i,by simpa[Ad.aH,c] using e⟩
theorem xx(it:kk κ H ad s.heap I j){Q:KV->Le->Prop}(q:Q (.ref I) s):K7 (Lh κ.prog κ.w) A (TC (.ref I)) Q E s:=by
 induction j with
 |c0 r i=>exact RF it.1 q
 |bo l=>exact K4 it (λR=>q1 R λt xs n i it _=>wpAny_pyIter_tupleiter it q) λa=>K4 a (λb=>q1 b λt xs n i it _=>RF it q) λc=>aD c λx g e=>wpAny_pyIter_rangeiter g q
 |dict r v l=>exact ts it λes ep i it _=>RW it q
theorem pz:(ad.a9 a).a9 b=(ad.a9 b).a9 a:=by exact congrArg (Ad.mk ad.f) (funext λ_=>propext or_left_comm)
end
variable {Ue Ui:Hp} {Ud Ug Um:Ad} {Uf:Shared} {Uh:Heap}
section
variable {A:Around} {h:Heap}
theorem EnvR.a9(V:EnvR κ nm gl env J H ad h)(k:∀b o,h.get? b=U o->h'.get? b=U o)(a:h.get? I=none):EnvR κ nm gl env J H (ad.a9 I) h':=
 V.jS (cy k a) λb o _ e i=>⟨⟨i.1,λq=>q.elim (λq=>by subst q;replace e:=a▸e;exact al e) i.2⟩,k b o e⟩
theorem kk.a9(k:∀b o,h.get? b=U o->h'.get? b=U o)(d:h.get? D=none):kk κ H ad h I j->kk κ H (ad.a9 D) h' I j:=
 kk.mv (ad:=ad) (ad':=ad.a9 D) (H:=H) (H':=H) (λ_ _ a _=>k _ _ a) (λ_ _ g _ i=>⟨⟨i.1,λq=>q.elim (λq=>al (d.symm.trans (hR q g))) i.2⟩,k _ _ g⟩) (λ_ _ f=>f.aL (cy k d)) (λ_ n=>⟨n,rfl⟩) λr v es ep n V Q=>⟨V,λe s=>(Q e s).elim λc w=>⟨c,k _ _ w.1,w.2⟩⟩
structure eI(κ:ds)(Um:Ad)(Ue:Hp)(Uh:Heap)(I D L:Ln)(Ug:Ad)(Ui:Hp)(Uf:Le)(j:It)(acc:List V):Prop where
 R:bg κ Ui Ug Uf
 it:kk κ Ui Ug Uf.heap I j
 g:∃ys n,Uf.heap.get? D=U {cls:=.type "list",data:=.seq ys n}/\aF κ Ui Ug Uf.heap acc ys.toList
 ns:∃m,Uf.heap.Ns L m
 nl:¬e2 Ui Ug L
 S:Step dD Um Ue Uh Ug Ui Uf.heap
theorem eI.step{acc:List V}(P:eI κ Um Ue Uh I D L Ug Ui Uf j acc)(z:Um.z I)(d:Um.z D)(S:Step dD Ug Ui Uf.heap ad' H' s'.heap)(R:bg κ H' ad' s'):eI κ Um Ue Uh I D L ad' H' s' j acc where
 R:=R
 it:=P.it.step S R.au (P.R.zf I (Z P.S.z z))
 g:=let ⟨ys,n,g,f⟩:=P.g;⟨ys,n,S.keep _ _ g (P.R.zf D (Z P.S.z d)) λq=>q.elim,f.step S R.au⟩
 ns:=by exact q1 P.ns λm o es ep e r=>⟨m,o,es,ep,S.keep _ _ e P.nl λf=>f.elim,r⟩
 nl:=by exact q1 P.ns λm o es ep e r=>S.mJ R.au e P.nl
 S:=P.S.trans S P.R.au
theorem Ah{c:Option Ex}(a:Ex.Ew nm gl c e=true)(i:∀e,c=U e->ST κ G C d e)(b:ci d A)(V:EnvR κ nm gl env J H ad s.heap)(R:bg κ H ad s){Q:Bool->Hp->Prop}(h:Ex.Eh G C c J Q H):
  K7 (Lh κ.prog κ.w) A (forIn (Ex.Fy nm c e) true λc r=>if r=true then do let ok<-QO c env (NN c env);pure (Mk ok) else pure (Mk r)) (jv κ dD ad H s.heap Q) E s:=by
 induction c with
 |none=>exact KY ⟨ad,H,h,R,Step.refl⟩
 |some m=>
  refine(?_ :K7 _ A (forIn [m.py nm e] true _) _ E s)
  (rw[Nf];refine Z (if_pos rfl) ?_)
  exact KN (KN (Lc (i m rfl e nm gl a A E env J Q H ad s b V R h) (λt S p=>KY (KY p)) λ_ _ y=>y))
structure CK(κ:ds)(Um:Ad)(Uh:Heap)(I D L:Ln):Prop where
 hI:Uh.get? I=KT
 fD:Uh.get? D=KT
 fL:Uh.get? L=KT
 ID:I≠D
 LI:L≠I
 LD:L≠D
 zI:Um.z I
 zD:Um.z D
 zL:¬Um.z L
 bL:κ.base.get? L=KT
theorem wE{m:K3->Option KV}(n:h.Ns L m)(e:∀o,h.get? L=U o->h'.get? L=U o):h'.Ns L m:=
 let ⟨o,es,ep,g,r⟩:=n;⟨o,es,ep,e o g,r⟩
theorem sP{acc:List V}(c:CK κ Um Uh I D L)(P:eI κ Um Ue Uh I D L Ug Ui Uf j acc){w:V}(r:aJ κ Ui Ug Uf.heap w y)(H:acc.length<aN){K:Le->Prop}
  (k:∀s',eI κ Um Ue Uh I D L Ug Ui s' j (acc++[w])->K s'):K7 (Lh κ.prog κ.w) A (call (.builtin "list.append") [.ref D,y]) (λ_ s'=>K s') E Uf:=by
 have z:Ug.z D:=(congrFun P.S.z D).mpr c.zD;exact eB P.g λys n g f=>Rf ⟨n,g⟩ (λh' l h=>cY l λN g'=>k _ ⟨P.R.t8 z h.extBut ⟨_,g'⟩ Uf.toks,P.it.t8 z h.extBut c.ID.symm (P.R.zf D z),⟨_,N,g',Z PB ((f.aL (di z h.extBut)).append ⟨y,[],rfl,r.aL (di z h.extBut),rfl⟩)⟩,P.ns.elim λm e=>⟨m,wE e λo g=>(h.2 _ c.LD).trans g⟩,P.nl,P.S.hY c.fD h.extBut (P.R.pK z)⟩) (KQ (K2 (Lq.symm.trans f.length.symm)) (od H))
theorem xF{acc:List V}{elt:Ex}{ex:K0}{E f g:KV->Le->Prop}(c:CK κ Um Uh I D L)(P:eI κ Um Ue Uh I D L Ug Ui Uf j acc)(B:ci d A)(W:EnvR κ nm gl env J Ui Ug Uf.heap)
  (F:Ex.Ew nm gl n i=true)(T:∀e,n=U e->ST κ G C d e)(v:elt.ok nm gl ex=true)(X:SE κ G C d elt){Q:List V->Hp->Prop}
  (q:Ex.Eh G C n J (λt h=>if t=true then elt.wp G C J (FS acc Q) h else Q acc h) Ui){K:Le->Prop}
  (k:∀ad' H' s' a,Q a H'->eI κ Um Ue Uh I D L ad' H' s' j a->K s'):
  K7 (Lh κ.prog κ.w) A (forIn (Ex.Fy nm n i) true λc r=>if r=true then do let ok<-QO c env (NN c env);pure (Mk ok) else pure (Mk r))
   (λok S=>if ok=true then K7 (Lh κ.prog κ.w) A (NN (elt.py nm ex) env) (λx l=>K7 (Lh κ.prog κ.w) A (call (.builtin "list.append") [.ref D,x]) (λ_ s'=>K s') E l) f S else K S) g Uf:=by
 refine Lc (Ah F T B W P.R q) (λt m p=>?_) λ_ _ y=>y;obtain⟨b,H,q,R,s⟩:=p;induction t with
 |false=>exact k _ _ _ _ q (P.step c.zI c.zD s R)
 |true=>refine Lc (X _ _ _ v A _ _ _ _ H b m B (W.step s R.au) R q) (λyv M p=>?_) λ_ _ y=>y;obtain⟨z,N,w,q,Z,o,u⟩:=p;exact sP c ((P.step c.zI c.zD s R).step c.zI c.zD u o) Z q.1 λs' aa=>k _ _ _ _ q.2 aa
theorem yd{J:It}{acc:List V}{e:Py}{K:Le->Prop}(c:CK κ Um Uh I D L)(P:eI κ Um Ue Uh I D L Ug Ui Uf j acc)(l:e.locals=L)(s:e.kindOf x=U .local)(u:(e.scope.kind==.class||(e.scope.kind==.module&&e.locals !=e.globals))=false)
  {v:V}{d:KV}{t:Nat}(b:LZ I Uf.heap h')(ex:∃B,h'.get? I=U B)(y:aJ κ Ui Ug h' v d)(C:kk κ Ui Ug h' I J)
  (k:∀s' m,m x=U d->s'.heap.Ns L m->aJ κ Ui Ug s'.heap v d->eI κ Um Ue Uh I D L Ug Ui s' J acc->K s'):
  K7 (Lh κ.prog κ.w) A (QP (.Name x px) e d) (λ_ s'=>K s') E {Uf with heap:=h',toks:=t}:=by
 subst l;have Z:Ug.z I:=(congrFun P.S.z I).mpr c.zI;have R:=P.R.t8 Z b ex t;refine q1 P.ns λm o es ep l r=>eB P.g λys n g f=>SP (RD s ⟨o,es,ep,b _ _ c.LI l,r⟩ (λi h H=>?_) u);have T:=jO (X:=λa=>a=e.locals) R P.nl (λz=>c.zL ((congrFun P.S.z _).mp z):¬Ug.z e.locals) c.bL (b _ _ c.LI l) (.inl ⟨es,ep,r.1⟩) H (h.elim λo w=>w.elim λ_ w=>w.elim λ_ w=>⟨o,w.1⟩) rfl (t+1);exact k _ _ (if_pos rfl) h (y.aL (T.2.aL T.1.au)) ⟨T.1,C.step T.2 T.1.au (R.zf I Z),⟨ys,n,(H.2 _ c.LD.symm).trans (b _ _ c.ID.symm g),(f.aL (di Z b)).aL (T.2.aL T.1.au)⟩,⟨_,h⟩,P.nl,
  (P.S.hY c.hI b (P.R.pK Z)).hY c.fL H.extBut λr p=>⟨λq=>P.nl ⟨r,p,q⟩,R.c0 ⟨r,p,rfl⟩⟩⟩
theorem y5{acc:List V}{K:KV->Le->Prop}(c:CK κ ((Ud.a9 D).a9 I) Uh I D L)(P:eI κ ((Ud.a9 D).a9 I) Ue Uh I D L Ug Ui Uf j acc)(N:¬(Ud.a9 D).z I)(d:¬Ud.z D)(b:κ.base.get? D=KT)(E:LZ I Uf.heap h')
  (q:newList acc Q Ui)(k:∀s' ad' H' v,Q v H'->aJ κ H' ad' s'.heap v (.ref D)->bg κ H' ad' s'->Step dD Ud Ue Uh ad' H' s'.heap->¬e2 H' ad' L->¬ad'.z L->(∃m,s'.heap.Ns L m)->K (.ref D) s'):K (.ref D) {Uf with heap:=h'}:=by
 refine eB P.g λys n g f=>?_;have r:=P.R;rw[P.S.mI] at r f;refine u6 (u0 (ad:=⟨Ug.f,Ud.z⟩) (r.iY N E Uf.toks:bg κ Ui (Ad.a9 ⟨Ug.f,Ud.z⟩ D) {Uf with heap:=h'}) d b (E _ _ c.ID.symm g) (KQ (K2 (Lq.symm.trans f.length.symm)) (dv (gT q))) (f.aL (gd (ad:=Ad.a9 ⟨Ug.f,Ud.z⟩ D) E)) (((P.S.hY c.hI E (P.R.pK ((congrFun P.S.z I).mpr c.zI))).Hc).Hc:Step dD Ud Ue Uh ⟨Ug.f,Ud.z⟩ Ui h') c.fD q) λad' H' v h R i S' Z a=>k _ ad' H' v h R i S' (λl=>(a _ l).elim P.nl c.LD) (λz=>c.zL (.inr (.inr ((congrFun Z _).mp z)))) (P.ns.elim λm e=>⟨m,wE e λo g=>E _ _ c.LI g⟩)
def qJ(G:String->Option V)(C:Ctx)(n:Option Ex)(elt:Ex)(J:aV)(i:Nat)(v:V)(acc:List V)(Q:List V->Hp->Prop)(h:Hp):Prop:=
 Ex.Eh G C n (J.set i (U v)) (λt h=>if t=true then elt.wp G C (J.set i (U v)) (FS acc Q) h else Q acc h) h
inductive HY(κ:ds)(G:String->Option V)(C:Ctx)(n:Option Ex)(elt:Ex)(J:aV)(i:Nat)(Q:PV)(Um:Ad)(Ue:Hp)(Uh:Heap)(I D L:Ln)(m:Nat)(s:Le):Prop
 |mk (Ug:Ad) (Ui:Hp) (j:It) (acc:List V) (q:ai.iter (qJ G C n elt J i) m j acc (jA Q) Ui) (P:eI κ Um Ue Uh I D L Ug Ui s j acc)
theorem xt{elt:Ex}{ex:K0}{E:Py}{acc:List V}{T:Le->Prop}{F:Option KV->Le->Prop}{K:KV->Le->Prop}{p t u y B:KV->Le->Prop}(W:ci d A)
  (c:CK κ ((Ud.a9 D).a9 I) Uh I D L)(q:ai.iter (qJ G C n elt J i) m j acc (jA Q) Ui)(P:eI κ ((Ud.a9 D).a9 I) Ue Uh I D L Ug Ui Uf j acc)(nI:¬(Ud.a9 D).z I)(nD:¬Ud.z D)(bD:κ.base.get? D=KT)(eL:E.locals=L)(kx:E.kindOf x=U .local)(hp:(E.scope.kind==.class||(E.scope.kind==.module&&E.locals !=E.globals))=false)
  (X:Ex.Ew N g n o=true)(ic:∀e,n=U e->ST κ G C d e)(Z:elt.ok N g ex=true)(ie:SE κ G C d elt)
  (hW:∀H' ad' h' m v xv,Step dD ((Ud.a9 D).a9 I) Ue Uh ad' H' h'->bS H'->h'.Ns L m->m x=U xv->aJ κ H' ad' h' v xv->jx H' ad' L->EnvR κ N g E (J.set i (U v)) H' ad' h')
  (k:∀s' ad' H' v,Q v H'->aJ κ H' ad' s'.heap v (.ref D)->bg κ H' ad' s'->Step dD Ud Ue Uh ad' H' s'.heap->¬e2 H' ad' L->¬ad'.z L->(∃m,s'.heap.Ns L m)->K (.ref D) s')
  (hT:∀m' ad' H' s' H b,m'<m->ai.iter (qJ G C n elt J i) m' H b (jA Q) H'->eI κ ((Ud.a9 D).a9 I) Ue Uh I D L ad' H' s' H b->T s')
  (h0:∀s,K (.ref D) s->F KT s)
  (h1:∀v s,K7 (Lh κ.prog κ.w) A (QP (.Name x px) E v) (λ_ Uf=>
     K7 (Lh κ.prog κ.w) A (forIn (Ex.Fy N n o) true λc r=>if r=true then do let ok<-QO c E (NN c E);pure (Mk ok) else pure (Mk r))
      (λok S=>if ok=true then K7 (Lh κ.prog κ.w) A (NN (elt.py N ex) E) (λx M=>K7 (Lh κ.prog κ.w) A (call (.builtin "list.append") [.ref D,x]) (λ_ s'=>T s') p M) t S else T S) u Uf) y s->F (U v) s):
  K7 (Lh κ.prog κ.w) A (Oo (.ref I)) F B Uf:=by
 have zI:Ug.z I:=(congrFun P.S.z I).mpr c.zI;induction m using MT with
 |zero=>exact q.elim
 |succ m=>refine qm q|>.elim (λw=>mM W.handled P.R zI w.1 P.it (λ_ h' ke=>h0 _ (y5 c P nI nD bD ke w.2 k)) λ_ _ _ _ _ e=>al e) λw=>w.elim λv w=>w.elim λH w=>mM W.handled P.R zI w.1 P.it (λe=>al e.symm) λv' aa xv h' tk e ke ob rv ij=>h1 _ _ (ay (LQ (KP e)) λf l=>?_);subst f;clear e;subst l;exact yd c P eL kx hp ke ob rv ij λs' mm hm hn rv R=>xF (Q:=λa h=>ai.iter (qJ G C n elt J i) m H a (jA Q) h) c R W (hW _ _ _ _ _ _ R.S R.R.au hn hm rv ⟨R.nl,λz=>c.zL ((congrFun R.S.z _).mp z)⟩) X ic Z ie w.2 λad' H' s' b q P=>hT m ad' H' s' H b (L7 m) q P
structure CO(κ:ds)(Ud:Ad)(Ue:Hp)(s:Le)(I D L:Ln)(h:Heap)(j:It):Prop where
 c:CK κ ((Ud.a9 D).a9 I) s.heap I D L
 nI:¬(Ud.a9 D).z I
 nD:¬Ud.z D
 nL:¬Ud.z L
 bD:κ.base.get? D=KT
 lt:∀b o,s.heap.get? b=U o->b<L
 P:∀t,eI κ ((Ud.a9 D).a9 I) Ue s.heap I D L ((Ud.a9 D).a9 I) Ue {s with heap:=h,toks:=t} j []
theorem nT{b:Type}{o:Option b}(h:∀a,o≠U a):o=KT:=by
 induction o with
 |none=>rfl
 |some a=>exact absurd rfl (h a)
theorem xQ{s:Le}{H a:Heap}{m:K3->Option KV}{x:Lg}(R:bg κ Ue Ud s)(i:s.heap.get? I=KT)(c:∃o,h.get? I=U o)(P:∀b o,s.heap.get? b=U o->h.get? b=U o)(J:kk κ Ue (Ud.a9 I) h I j)
  (E:h.push {cls:=.type "list",data:=.seq #[]}=H)(v:a.Ns H.objs.size m)(w:MP H.objs.size (H.push x) a):CO κ Ud Ue s I h.objs.size H.objs.size a j:=by
 refine cY c λy G=>?_;have f:=aW h (K9 h.objs.size);have fL:=aW H (K9 H.objs.size);have K:∀b o,h.get? b=U o->H.get? b=U o:=λb o e=>hR E (K5 _ e);have p:∀b o,H.get? b=U o->a.get? b=U o:=λb o e=>(w.2 b λq=>al (fL.symm.trans (hR q e))).trans (K5 _ e);have k:∀b o,h.get? b=U o->a.get? b=U o:=λb o e=>p _ _ (K _ _ e);have d:H.get? h.objs.size=U {cls:=.type "list",data:=.seq #[]}:=hR E (La _ rfl);have D:s.heap.get? h.objs.size=KT:=nT λo e=>al (f.symm.trans (P _ _ e));have S:s.heap.get? H.objs.size=KT:=nT λo e=>al (fL.symm.trans (K _ _ (P _ _ e)));have n:I≠h.objs.size:=λe=>al (f.symm.trans (hR e G));have L:H.objs.size≠I:=λe=>al (fL.symm.trans (Z e (K _ _ G)));have u:H.objs.size≠h.objs.size:=λe=>al (fL.symm.trans ((congrArg _ e).trans d));have N:=f' R S;exact⟨⟨i,D,S,n,L,u,.inl rfl,.inr (.inl rfl),λz=>z.elim L λz=>z.elim u N,ef R S⟩,λz=>z.elim n (f' R i),(f' R D),N,ef R D,λb o e=>Lv (K _ _ (P _ _ e)),λt=>
  ⟨pz ..▸(R.a9 P rfl rfl i ⟨_,G⟩:bg κ Ue (Ud.a9 I) {s with heap:=h}).a9 (s':={s with heap:=a,toks:=t}) k rfl rfl f ⟨_,p _ _ d⟩,pz ..▸J.a9 k f,⟨#[],_,p _ _ d,rfl⟩,⟨_,v⟩,
   λ⟨r,l,e⟩=>(R.c0 ⟨r,l,e⟩).elim λo g=>al (S.symm.trans g),Step.keeps (λb o e=>k _ _ (P _ _ e)) λr l=>R.c0 ⟨r,l,rfl⟩⟩⟩
theorem A9{elt:Ex}{n:Option Ex}{ex iter:K0}{c:Pj}{pos:Qk}{K:KV->Le->Prop}{R:Except KV Sz->Le->Prop}
  (E:SE κ G C d elt)(r:∀e,n=U e->ST κ G C d e)(aa:ji c x i nm gl)(H:Ex.Ew (b0 nm x i c.names) (lb gl.gH c) n b=true)(g:elt.ok (b0 nm x i c.names) (lb gl.gH c) ex=true)(u:ci d A)
  (o:CO κ Ud Ue a I D L h j)(V:EnvR κ nm gl env J Ue Ud a.heap)(q:ai.iter (qJ G C n elt J i) m j [] (jA Q) Ue)(z:∀s,K (.ref D) s->R (.ok .next) s)
  (k:∀s' ad' H' v,Q v H'->aJ κ H' ad' s'.heap v (.ref D)->bg κ H' ad' s'->Step dD Ud Ue a.heap ad' H' s'.heap->¬e2 H' ad' L->¬ad'.z L->(∃m,s'.heap.Ns L m)->K (.ref D) s')(t:Nat):
  O' (Lh κ.prog κ.w) A (.compLoop (.ListComp (elt.py (b0 nm x i c.names) ex) [⟨.Name x px,iter,Ex.Fy (b0 nm x i c.names) n b,0⟩] c pos) 0 (.ref I) (.ref D) (RZ c (ph env c.names []) L env)) R {a with heap:=h,toks:=t}:=
 codeAny_compLoop_tests (HY κ G C n elt J i Q ((Ud.a9 D).a9 I) Ue a.heap I D L) (λm Uf p=>by
  obtain⟨Ug,Ui,j,acc,q,P⟩:=p;refine xt (px:=px) (K:=K) u o.c q P o.nI o.nD o.bD rfl ?_ ?_ H r g E (λH' ad' h' m v X S st N M B F=>yI aa (((V.a9 (λ_ _ e=>e) o.c.fD).a9 (λ_ _ e=>e) o.c.hI).step S st) N M B F (V.ns.elim λm w=>w.elim λ_ w=>w.elim λ_ w=>w.elim λ_ w=>LJ (K6 V.above (o.lt _ _ w.1)))) k (λT ad' H' s' W f l q P=>⟨T,l,ad',H',W,f,q,P⟩) z λ_ _ y=>y;·refine((Z ew (Z aa.hx ?_)):(Rr c env).names.lookup x=_);rfl
  ·refine Z (aa.kind:(RZ c (ph env c.names []) L env).scope.kind=.function) ?_;rfl) m ⟨_,_,j,[],q,o.P t⟩
theorem uL(Z:fG κ G){elt:Ex}{c:Option Ex}{S:Le}{X:KV}{j:It}(ie:SE κ G C d elt)(ic:∀e,c=U e->ST κ G C d e)
  {ex iter u:K0}{x:K3}{px:Qk}{b:Pj}{pos:Qk}(aa:ji b x i nm gl)(F:Ex.Ew (b0 nm x i b.names) (lb gl.gH b) c u=true)(M:elt.ok (b0 nm x i b.names) (lb gl.gH b) ex=true)(hA:ci d A)
  (V:EnvR κ nm gl env J Ue Ud S.heap)(r:bg κ Ue Ud S)(rx:aJ κ Ue Ud S.heap v X)(hj:It.start Ue v=U j){Q:PV}(q:ai.iter (qJ G C c elt J i) n j [] (jA Q) Ue){R:KV->Ln->Except KV Sz->Le->Prop}{E w z:KV->Le->Prop}
  (k:∀acc L s' ad' H' v,Q v H'->aJ κ H' ad' s'.heap v acc->bg κ H' ad' s'->Step dD Ud Ue S.heap ad' H' s'.heap->S.heap.get? L=KT->¬e2 H' ad' L->¬ad'.z L->κ.base.get? L=KT->(∃m,s'.heap.Ns L m)->R acc L (.ok .next) s'):
  K7 (Lh κ.prog κ.w) A (TC X) (λit Uf=>K7 (Lh κ.prog κ.w) A (Qn []) (λacc B=>K7 (Lh κ.prog κ.w) A (newFunctionEnv b env.globals (ph env b.names []) [] env.qual KT .none (U env)) (λf D=>O' (Lh κ.prog κ.w) A (.compStart (.ListComp (elt.py (b0 nm x i b.names) ex) [⟨.Name x px,iter,Ex.Fy (b0 nm x i b.names) c u,0⟩] b pos) 0 it acc {f with scope:=Rr b env}) (R acc f.locals) D) E B) w Uf) z S:=by
 refine wo Z r hj rx λI T hI N P ij=>M8 (wpAny_newFunctionEnv (λp hp hk=>?_) (by intro y hy;simp at hy) (λW h H=>?_) aa.kind);·refine K4 (aa.all p hp) (λq=>?_) λg=>K4 g (λq=>?_) λl=>ay l λq _=>?_ <;>rw[hk] at q<;>exact(nomatch q)
 have o:=xQ r hI N P ij rfl h H;have run:=λt=>A9 (t:=t) (iter:=iter) (px:=px) (pos:=pos) (R:=R _ _) (K:=λa s=>R a _ (.ok .next) s) ie ic aa F M hA o V q (λ_ y=>y) λs' ad' H' v qv rv R' S' nl nz ns=>k _ _ s' ad' H' v qv rv R' S' o.c.fL nl nz o.c.bL ns;exact codeAny_compStart_list (run _) (xx (o.P _).it (run _))
theorem pS(z:fG κ G){elt:Ex}{c:Option Ex}(B:SE κ G C d elt)(D:SE κ G C d it)(M:∀e,c=U e->ST κ G C d e)
  {ex iter I:K0}{x:K3}{px:Qk}{a:Pj}{pos P:Qk}
  (f:mO a x i nm gl=true)(t:it.ok nm gl iter=true)(F:Ex.Ew (b0 nm x i a.names) (lb gl.gH a) c I=true)(l:elt.ok (b0 nm x i a.names) (lb gl.gH a) ex=true)
  (o:ci d A)(V:EnvR κ nm gl env J H ad s.heap)(R:bg κ H ad s){Q:PV}(W:(Ex.comp elt i it c).wp G C J Q H){u:Option (KV->S7 Unit)}{b:KV->Le->Prop}
  (k:∀acc L s' ad' H' v,Q v H'->aJ κ H' ad' s'.heap v acc->bg κ H' ad' s'->Step dD ad H s.heap ad' H' s'.heap->s.heap.get? L=KT->¬e2 H' ad' L->¬ad'.z L->κ.base.get? L=KT->(∃m,s'.heap.Ns L m)->
   compPost (Lh κ.prog κ.w) A E u b acc L (.ok .next) s'):
  K7 (Lh κ.prog κ.w) A (comprehension (.ListComp (elt.py (b0 nm x i a.names) ex) [⟨.Name x px,it.py nm iter,Ex.Fy (b0 nm x i a.names) c I,0⟩] a pos) a env P (Qn []) false (NN (it.py nm iter) env) u) b E s:=by
 have aa:=Bc f;have h:∀p∈a.names,p.2=.free->(env.cells.lookup p.1).isSome=true:=λp g K=>by refine yJ (aa.cell V g K) λj c _ _ N _=>Z N ?_;rfl
 refine wpAny_comprehension_free rfl (DX it nm iter env) (uo h) aa.kind (λp g K=>hR K (g5 aa.hH g)) (Lc (D _ nm gl t A E env J _ H ad s o V R W) (λxv w p=>?_) λ_ _ y=>y);obtain⟨Ud,Ue,v,q,X,r,S⟩:=p;obtain⟨j,T,n,q⟩:=aQ q;exact uL z B M aa F l o (V.step S r.au) r X T q λacc L s' ad' H' v q rv R' S' fL nl nz bL ns=>k _ _ s' ad' H' v q rv R' (S.trans S' r.au) (nT λob e=>(S.bv _ _ e).elim λo' e'=>al (fL.symm.trans e')) nl nz bL ns
theorem nQ{o:Lg}(g:h.get? L=U o)(f:cv o)(k:LZ L h h'):fJ ad H h ad H h':=
 ⟨λb a e n i=>⟨i,k b a (λq=>by clear k;subst q;rw[g] at e;obtain rfl:=KP e;exact n f) e⟩,λ_ _=>rfl,K9 _⟩
theorem bg.HR(R:bg κ H ad s){o:Lg}(g:s.heap.get? L=U o)(f:cv o)(n:¬e2 H ad L)(N:¬ad.z L)(B:κ.base.get? L=none)(k:LZ L s.heap h')(t:Nat):bg κ H ad {s with heap:=h',toks:=t} where
 base:=λb o e=>k b o (λq=>by clear k N n g;subst q;rw[B] at e;exact al e) (R.base b o e)
 gens:=R.gens
 os:=R.os
 au:=R.au
 inj:=R.inj
 new:=R.new
 obj:=λr o e=>by have q:=R.obj r o e;obtain⟨d,g'⟩:=q.ex;exact q.aL (nQ g f k) ((k _ _ (λz=>n ⟨r,by refine Z e ?_;rfl,z⟩) g').trans g'.symm)
 zf:=R.zf
 lD:=λa q=>by obtain⟨o,e⟩:=R.lD a q;exact⟨o,k a o (λc=>N (hR c q)) e⟩
 zb:=R.zb
theorem A7(n:∃m,h.Ns L m):∃o,h.get? L=U o/\cv o:=by exact pk n λm o es ep e d _=>⟨o,e,.inl ⟨es,ep,d⟩⟩
theorem vg(k:fG κ G){elt:Ex}{c:Option Ex}(I:SE κ G C d elt)(m:SE κ G C d it)(p:∀e,c=U e->ST κ G C d e):SE κ G C d (.comp elt i it c):=by intro e nm gl u A E env J Q H ad s w V R W;refine v9 u λh _ t f l=>(?_ :K7 _ A (NN (.ListComp _ _ _ _) env) _ E s);simp only[eval_ListComp];exact pS k I m p h t f l w V R W λacc L s' ad' H' v q x b S y n Z B N=>⟨_,N.choose_spec,λh' a=>aD (A7 N) λo g F=>⟨ad',H',v,q,x.aL (nQ g F a.extBut),b.HR g F n Z B a.extBut s'.toks,S.hY y a.extBut λr j=>⟨λz=>n ⟨r,j,z⟩,b.c0 ⟨r,j,rfl⟩⟩⟩⟩
theorem FK(V:h4 κ nm gl env J H ad h)(x:FX env a):∃o,h.get? a=U o:=by
 rcases x with rfl |⟨x,c⟩
 ·exact q1 V.ns λm o es ep e _=>⟨o,e⟩
 ·exact cH (V.cell x a c) λ_ b _=>eB b λw o e _=>⟨o,e⟩
theorem AF(KO:fG κ G){elt:Ex}{c:Option Ex}(ig:SG κ G C d t)(ie:SE κ G C d elt)(ii:SE κ G C d it)(ic:∀e,c=U e->ST κ G C d e){pos:Qk}
  (h1:t.ok nm gl x=true)(h2:(Ex.comp elt i it c).ok nm gl v=true)(hs:OO [t.py nm x] ((Ex.comp elt i it c).py nm v) pos.line env=pure true)
  (P:ci d A)(V:h4 κ nm gl env J H ad s.heap)(R:bg κ H ad s)(hw:St.wp G C (.a8 t (.comp elt i it c)) J Q H):K7 (Lh κ.prog κ.w) A (exec (.Assign [t.py nm x] ((Ex.comp elt i it c).py nm v) pos) env) (dh κ nm gl env ad H s.heap Q) E s:=by
 simp only[Tr];refine KN (MZ (Z hs (KN (KY (Z (if_pos rfl) (v9 h2 λu _ T F B=>KN (Z (arm_evalThenUse_ListComp ..) (KN (Lc (Q:=λ_ s'=>dh κ nm gl env ad H s.heap Q .next s') (pS KO ie ii ic u T F B P V.toEnvR R hw λacc L s' ad' H' w q rv D S W I nz nb X=>?_) (λ_ _ p=>KY (KY p)) λ_ _ y=>y)))))))));refine((fM (Lc (ig x nm gl h1 A E env J _ H' ad' s' w acc P (V.step S D.au) D rv q) (λ_ K p=>?_) λ_ _ y=>y)):K7 _ A (S5 acc ((M2 [t.py nm x] env).map (·.2))) _ E s');obtain⟨Ug,Ui,k,l,m,f,a⟩:=p;refine aD (A7 X) λo g fd=>?_;have nx:¬FX env L:=λx=>by obtain⟨o,e⟩:=FK V x;rw[W] at e;exact al e
 have j:=a.keep _ _ g I λx=>absurd x nx;have n:=a.mJ f.au g I;have N:¬Ug.z L:=Z a.z nz;exact⟨_,ts X.choose_spec λM es ep e r=>⟨M,es,ep,a.keep _ _ e I λx=>absurd x nx,r⟩,λh' h=>⟨Ug,Ui,k,.next,l,rfl,m.jS (nQ j fd h.extBut) (λb M xb e i=>⟨i,h.extBut b M (λq=>nx (hR q xb)) e⟩),f.HR j fd n N nb h.extBut K.toks,(S.fx.trans a D.au).hY W h.extBut λr hr=>⟨λz=>n ⟨r,hr,z⟩,f.c0 ⟨r,hr,rfl⟩⟩⟩⟩
theorem xo{t:Tg}{elt:Ex}{c:Option Ex}(x v:K0)(n:Nat)(env:Py):OO [t.py nm x] ((Ex.comp elt i it c).py nm v) n env=pure false\/OO [t.py nm x] ((Ex.comp elt i it c).py nm v) n env=pure true:=by
 cases t with
 |var j=>
  refine(?_ :(do return _:S7 Bool)=_\/(do return _:S7 Bool)=_);generalize (env.blockKind==_&&_&&_&&_)=b;induction b;·exact .inl rfl
  ·exact .inr rfl
 |_=>exact .inl rfl
theorem uy(k:fG κ G)(I:SG κ G C d t)(g:SE κ G C d e)(kJ:∀elt i it c,e=.comp elt i it c->SE κ G C d elt/\SE κ G C d it/\∀e,c=U e->ST κ G C d e):SS κ G C d (.a8 t e):=by
 intro a nm gl j A E env J Q H ad s h V R w;refine og j λx b f=>?_;induction v:e.uD with
 |false=>exact pD I g x b f (nb v _ _ _ _) h V R w
 |true=>
  clear j;cases e with
  |comp elt i it c=>refine K4 (xo (t:=t) (elt:=elt) (it:=it) (i:=i) (c:=c) (nm:=nm) (sk a 1) (sk a 0) a.pos.line env) (λS=>pD I g x b f S h V R w) λS=>?_;·exact cH (kJ _ _ _ _ rfl) λp1 p P=>AF k I p1 p P b f S h V R w
  |_=>exact aK v
theorem y6{R:V->KV->Prop}{K:List (Int×KV)}(h:eS (λe g=>e.1=g.1/\R e.2 g.2) es K)(k:Int):eS (λe g=>e.1=g.1/\R e.2 g.2) (gi es k) (without K k):=by
 induction h with
 |nil=>exact .nil
 |@cons p q l m H _ i=>
  obtain⟨a,v⟩:=p;obtain⟨b,x⟩:=q;simp only at H;obtain⟨rfl,r⟩:=H;unfold without at i⊢;by_cases c:a=k;·simpa[ir,hy,c] using i
  ·simp only[ir,hy,c,if_false,MV,ne_eq,not_false_eq_true,decide_true,if_true]
   exact .cons ⟨rfl,r⟩ i
theorem vi{R:V->KV->Prop}{P:Ln->Prop}{K:List (List Int×Ln×KV)}(h:eS (λe g=>e.1=g.1/\P g.2.1/\R e.2 g.2.2) es K){k:List Int}(H:k∉K.map (·.1)):gi es k=es:=by
 induction h with
 |nil=>rfl
 |@cons p q l m b _ i=>obtain⟨a,v⟩:=p;simp only[LC,KZ,not_or] at H;simp only at b;have:¬a=k:=λe=>H.1 (hR e b.1);simp only[ir,hy,this,if_false];exact Z (i H.2) rfl
theorem xI{R:V->KV->Prop}{P:Ln->Prop}{K:List (List Int×Ln×KV)}(h:eS (λe g=>e.1=g.1/\P g.2.1/\R e.2 g.2.2) es K)(H:(K.map (·.1)).Nodup){k:List Int}:∀{j:Nat} {p:Ln×KV},K[j]? =U (k,p)->
  eS (λe g=>e.1=g.1/\P g.2.1/\R e.2 g.2.2) (gi es k) (K.eraseIdx j):=by
 induction h with
 |nil=>intro j p e;simp at e
 |@cons p q l m d r i=>
  intro j z e;obtain⟨a,v⟩:=p;obtain⟨b,x,y⟩:=q;simp only at d;simp only[LC,Ll] at H;induction j using MT with
  |zero=>simp only[List.getElem?_cons_zero,OZ,Prod.mk.injEq] at e;clear i;obtain⟨rfl,rfl⟩:=e;simp only[ir,hy,d.1,if_true,List.eraseIdx_cons_zero];exact Z (vi r H.1) r
  |succ j=>simp only[OF] at e;have n:¬a=k:=λc=>H.1 (LG.mpr ⟨(k,z),Nt e,hR c d.1⟩);simp only[ir,hy,n,if_false,QG];exact .cons d (i H.2 e)
theorem g6{b c:Type}(f:b->c):∀(l:List b) (j:Nat),(l.map f).eraseIdx j=(l.eraseIdx j).map f
 |[],_=>rfl
 |_::_,0=>rfl
 |a::l,j+1=>by simp only[LC,QG,g6 f l j]
theorem za{K:Type}[DecidableEq K]{prog:Mi}{w:MW}{knd:R3 prog w K}{xs:List (K×Ln×KV)}{k:K}{Q:Unit->Le->Prop}(u:knd.room A.in1)(h:knd.is s.heap k b)(m:s.heap.DictOfH knd a xs)(H:(Pw xs k).isSome=true)
  (q:∀j p h' t,xs[j]? =U (k,p)->h'.DictOfH knd a (xs.eraseIdx j)->MP a s.heap h'->Q () {s with heap:=h',toks:=t})(hsz:xs.length<=LV):K7 (Lh prog w) A (delItem (.ref a) (.ref b)) Q E s:=by
 refine u6 (id m) λo es ep c C hd e S n=>Sq m.typeIs rfl Nr (MK Nr m.typeIs PX ?_ (PP _ _));unfold Builtin.«dict.__delitem__»;refine KN ?_;unfold Tw;refine KN (RG m.typeIs ((KY ((KN ?_):K7 _ _ (P4 a (.ref b)>>=_) _ _ s)):K7 _ _ (pure (MG a,MG b)) _ _ s));unfold P4;refine LX (KN (knd.pyHash u h (KN (wpAny_dictFind_heap (s:={s with toks:=s.toks+knd.draws k}) u h c hd e S n ?_ ?_))))
 ·intro d
  replace H:=(atKey_none_of_get d)▸H;exact aK H
 ·intro j p J
  refine KN (OI (s:={s with toks:=s.toks+knd.draws k}) c hd (Z (entry_at e j) (Z J ?_)));have f:es.size<=LV:=Z (To e) hsz;refine KN (wpAny_updateDictKeys (hz:=f) (s:={s with toks:=s.toks+knd.draws k}) c hd (KY (KN (OH (KY ⟨.none,rfl,q j p _ _ J ⟨_,_,ep+1,Ma _ c (Obj.isFreed_of_dict (Obj.data_mapDictKeys hd _)),C.mapDictKeys _,Obj.data_mapDictKeys hd _,?_,λx X=>knd.keeps (S x (List.mem_of_mem_eraseIdx X)) c hd (Mv ..),?_⟩ (Mv ..)⟩)))))
  ·have lt:j<es.size:=by exact Z (To e) ((LU.mp J).1)
   simp only[Ow,lt,dite_true,QL,e,g6]
  ·simp only[<-g6]
   exact n.sublist (List.eraseIdx_sublist _ _)
theorem AU(KO:fG κ G)(hA:ci d A)(R:bg κ H ad s){c:V}{Q:Hp->Prop}(h:AB H c k Q)(X:aJ κ H ad s.heap c x)(F:aJ κ H ad s.heap k y){P:Le->Prop}
  (q:∀H' s',Q H'->bg κ H' ad s'->Step dD ad H s.heap ad H' s'.heap->P s'):K7 (Lh κ.prog κ.w) A (delItem x y) (λ_ s'=>P s') E s:=by
 obtain⟨r,hr,h⟩:=aQ h;obtain⟨o,B,h⟩:=aQ h;rw[vI hr] at X;obtain⟨rfl,_⟩:=X;induction o with
 |dI es=>
  obtain⟨i,I,n,hz,h⟩:=aQ h;rw[c1 I] at F;obtain⟨u,rfl⟩:=F;obtain⟨K,D,f⟩:=R.obj _ _ B;have N:(Ny K i).isSome=true:=by
   refine K4 (gh (f:=id) (λ_ _ e=>e) f i) (λb=>ay b λe _=>?_) λg=>cR g λv x e J _=>?_;·rw[e] at n;exact aK n
   ·refine Z (show Ny K i=U x from J) ?_;rfl
  refine Sq D.typeIs rfl Nr (P7 Nr D.typeIs PX (PP _ _) (meets_dict_delitem_pairs (MC κ.prog κ.w) (ad.f r) (NF _ _ _ _))
   ⟨K,D,by refine hR f.length ?_;exact dv hz,N,λh' C L=>?_⟩);refine ay (jd (o:=.dI (gi es i)) R (bx B) L (i3 C).2 (λM=>⟨_,C,(y6 f i).bv λ_ _ p=>⟨p.1,p.2.aL M⟩⟩) (s.toks+1)) λT S=>?_;exact q _ _ h T S
 |dP es=>
  obtain⟨W,hk,n,hz,h⟩:=aQ h;refine gw (kL hk F) λka m ik I=>?_;subst m;obtain⟨K,D,f⟩:=R.obj _ _ B;have N:(Pw K W).isSome=true:=by
   refine K4 (hD f W) (λw=>ay w λe _=>?_) λz=>rh z λv a x e J _=>?_;·rw[e] at n;exact aK n
   ·refine Z J ?_;rfl
  refine za (i4 (K6 (L2 (by decide) _) (u5 hA))) I D N (λj p h' t hj C L=>?_) (hR f.length (dv hz));refine ay (jd (o:=.dP (gi es W)) R (bx B) L (hl C).2 (λM=>⟨_,C,(xI f (hl D).1 hj (P:=jx H ad)).bv λ_ _ p=>⟨p.1,⟨λl=>p.2.1.1 ((Hp.gn (bx B)).mp l),p.2.1.2⟩,p.2.2.aL M⟩⟩) t) λT S=>?_;exact q _ _ h T S
 |_=>exact h.elim
theorem vh(K:fG κ G)(I:SE κ G C d e)(l:SE κ G C d i):SS κ G C d (.md e i):=by intro x nm gl m A E env J Q H ad s j V R W;refine ay (bu m) λn t=>(?_ :K7 _ A (exec (.Delete [.Subscript _ _ _] _) env) _ E s);simp only[arm_exec_Delete,arm_deleteEach_cons,arm_deleteEach_nil,arm_delete_Subscript];refine KN (MZ (KN (KN (KN (Lc (I _ nm gl n A E env J _ H ad s j V.toEnvR R W) (λov g p=>?_) λ_ _ y=>y)))));obtain⟨Ud,Ue,o,q,u,a,b⟩:=p;have v:=V.step b a.au;refine KN (LX (Lc (l _ nm gl t A E env J _ Ue Ud g j v.toEnvR a q) (λz Uf p=>?_) λ_ _ y=>y));obtain⟨Ug,Ui,w,q,rw,r,S⟩:=p;exact KN (MZ (KN (LX (AU K j r q (u.step S r.au) rw λh k q c f=>Q9 (KY (KY ⟨Ug,h,J,.next,q,rfl,(v.step S r.au).step f c.au,c,((b.trans S a.au).trans f r.au).fx⟩))))))
theorem E6{k:DK}(C:k.ok nm=true)(V:EnvR κ nm gl env J H ad s.heap)(R:bg κ H ad s){v:ai.V}(h:k.val J=U v):K7 M A (NN (k.py nm x) env) (a' κ dD ad H s.heap (λw H'=>w=v/\H'=H)) E s:=by
 induction k with
 |str t=>
  (replace h:=KP h;subst h)
  exact Ss (a'.hL R ⟨rfl,rfl⟩ ⟨_,rfl⟩)
 |var i=>obtain⟨l,g⟩:=bu C;refine ay (hs g) λe j=>K4 (V.var _ _ (beq_iff_eq.mp l)) (λr=>ay r λk f=>cR (f v h) λm y n d q=>O8 (RY V.kind k n d (a'.cZ R ⟨rfl,rfl⟩ q)) e) λa=>ay a λk b=>ll b λc C I _ f=>?_;·exact aD (f v h) λy d q=>K4 k (λk=>O8 (Sg V.kind k C d (a'.cZ R ⟨rfl,rfl⟩ q)) e) λk=>O8 (Sf V.kind k C d (a'.cZ R ⟨rfl,rfl⟩ q) j) e
inductive HX(κ:ds)(ad:Ad)(H:Hp)(h:Heap)(kv:List V)(Q:List V->Hp->Prop)(ps:List (KV×KV))(s:Le):Prop
 |mk (ad':Ad) (H':Hp) (vals:List V) (q:Q vals H') (r:aF κ H' ad' s.heap kv (ps.map (·.1))) (v:aF κ H' ad' s.heap vals (ps.map (·.2))) (R:bg κ H' ad' s) (S:Step dD ad H h ad' H' s.heap)
theorem Bi{vs:List Ex}(u:∀m∈vs,SE κ G C d m):∀{K:List DK} {xs ys:List K0} {pos:Qk},K.all (DK.ok nm)=true->Ex.hN nm gl vs ys=true->K.length=vs.length->∀{kv:List V},DK.vals J K=U kv->
  ∀{Q:List V->Hp->Prop} {H:Hp} {ad:Ad} {s:Le},ci d A->EnvR κ nm gl env J H ad s.heap->bg κ H ad s->Ex.bh G C vs J Q H->
  K7 (Lh κ.prog κ.w) A (evalPairs (pairTrees (DK.cP nm K xs) (Ex.cP nm vs ys) env pos)) (HX κ ad H s.heap kv Q) E s:=by
 induction vs with
 |nil=>
  intro K xs ys pos j x l kv h Q H ad s n V R W;clear j;cases K with
  |cons _ _=>cases l
  |nil=>(replace h:=KP h;subst h);exact pairTrees_nil_walk ⟨ad,H,[],W,rfl,rfl,R,Step.refl⟩
 |cons v vs I=>
  intro K xs ys pos j x l kv h Q H ad s n V R W;cases K with
  |nil=>cases l
  |cons k K=>refine ay (all_cons j) λD F=>ay (bu x) λd1 L=>?_;obtain⟨X,z,h⟩:=bG h;obtain⟨Z,M,rfl⟩:=fz h;refine pairTrees_cons_walk (Lc (E6 D V R z) (λkx g p=>?_) λ_ _ y=>y);clear h z R;clear h;obtain⟨Ud,Ue,_,⟨rfl,rfl⟩,N,a,e⟩:=p;have f:=V.step e a.au;refine Lc (u v KX _ nm gl d1 A E env J _ _ Ud g n f a W) (λvx Uf p=>?_) λ_ _ y=>y;obtain⟨Ug,Ui,w,q,P,r,S⟩:=p;refine Lc (I (λm T=>u m (K1 _ T)) F L (Pk l) M n (f.step S r.au) r q) (λps B p=>?_) λ_ _ y=>y;obtain⟨Um,i,vals,q,o,t,b,c⟩:=p;exact⟨Um,i,w::vals,q,⟨_,_,rfl,(N.step S r.au).step c b.au,o⟩,⟨_,_,rfl,P.step c b.au,t⟩,b,(e.trans S a.au).trans c r.au⟩
inductive Jd(κ:ds)(H:Hp)(ad:Ad)(h:Heap)(vals:List V)(l:List String)(ps:List (KV×KV)):Prop
 |mk (k:List (K3×KV)) (c:Carries (Mh κ.prog κ.w) ps k) (f:eS (λe f=>KR e.1=f.1/\aJ κ H ad h e.2 f.2) (l.zip vals) k) (m:k.map (·.1)=l.map KR)
theorem vj{vals:List V}:∀{kv:List V} {l:List String} {ps:List (KV×KV)},k2 kv=U l->l.length=vals.length->aF κ H ad h kv (ps.map (·.1))->aF κ H ad h vals (ps.map (·.2))->Jd κ H ad h vals l ps:=by
 induction vals with
 |nil=>
  intro kv l ps e L R a;cases ps with
  |cons _ _=>cases a
  |nil=>
   cases l with
   |nil=>exact⟨[],trivial,.nil,rfl⟩
   |cons _ _=>cases L
 |cons v vals i=>
  intro kv l ps e L R a;obtain⟨y,q,E,g,a⟩:=a;cases ps with
  |nil=>cases E
  |cons p ps=>
   cases kv with
   |nil=>cases R
   |cons k kv=>obtain⟨t,j,e⟩:=bG e;obtain⟨s,b,rfl⟩:=fz e;obtain⟨x,r,d,X,R⟩:=R;rw[rx j] at X;obtain⟨u,rfl⟩:=X;injection d with d n;injection E with E o;obtain⟨px,py⟩:=p;obtain rfl:px=_:=d;obtain rfl:py=_:=E;subst n o;obtain⟨K,c,f,m⟩:=i b (Pk L) R a;exact⟨(_,_)::K,⟨O9 _ _ _ _,rfl,c⟩,.cons ⟨rfl,g⟩ f,congrArg (_::·) m⟩
theorem pM(R:bg κ H ad s){ps:List (KV×KV)}{kv vals:List V}{Q:PV}(f:D=s.heap.objs.size){K:Type}[DecidableEq K]{knd:Sy κ.prog κ.w K}{k:List (K×KV)}{o:Obj}{e:Nat}{t:Int}{T:Nat}
  (a:bg κ Ue Ud Uf)(S:Step dD (ad.a9 D) H (s.heap.push {cls:=.type "dict",data:=.dict #[]}) Ud Ue Uf.heap)(h:MP D Uf.heap h')(g:h'.DictOf knd D k)
  (i:∀ad',(∀v x,aJ κ Ue Ud Uf.heap v x->aJ κ Ue ad' h' v x)->ij κ Ue ad' h' D o)(q:Q (.ref ⟨e,t,Ue.n⟩) (Ue.new e t o)):a' κ dD ad H s.heap Q (.ref D) {Uf with heap:=h',toks:=T}:=by
 have fr:s.heap.get? D=KT:=aW _ (K2 f.symm);have z:Ud.z D:=Z S.z (.inl rfl);have b:=a.t8 z h.extBut ((i3 g).2:∃o,h'.get? D=U o) T;have d:Step dD (ad.a9 D) H s.heap (ad.a9 D) H (s.heap.push {cls:=.type "dict",data:=.dict #[]}):=Step.keeps (bO _ _) λr j=>R.c0 ⟨r,j,rfl⟩;have c:=(d.trans S (R.au:bS H)).hY fr h.extBut (a.pK z);have E:=c.mI;have C:∀v x,aJ κ Ue Ud Uf.heap v x->aJ κ Ue (Ad.a9 ⟨Ud.f,ad.z⟩ D) h' v x:=λv x r=>by have:=r.aL (di z h.extBut);rwa[E] at this
 rw[E] at b;exact n0 b (f' R fr:¬ad.z D) (ef R fr) (i _ C) c.Hc fr q
theorem vy(nm:Nm):∀(K:List DK) (xs:List K0),(DK.cP nm K xs).all (·.isSome)=true/\(DK.cP nm K xs).length=K.length
 |[],_=>⟨rfl,rfl⟩
 |k::K,xs=>⟨(vy nm K xs.tail).1,congrArg (·+1) (vy nm K xs.tail).2⟩
theorem qz(nm:Nm):∀(m:List Ex) (es:List K0),(Ex.cP nm m es).length=m.length
 |[],_=>rfl
 |_::m,es=>congrArg (·+1) (qz nm m es.tail)
theorem mW{k:V}{kv vals:List V}(h:dH (k::kv) vals Q H):(∃i v K t,k=.int i/\kv=[]/\vals=[v]/\Q (.ref ⟨K,t,H.n⟩) (H.new K t (.dI [(i,v)])))\/
  (bB (k2 (k::kv)) λl=>l.Nodup/\l.length=vals.length/\l.length<=15/\∃k t,Q (.ref ⟨k,t,H.n⟩) (H.new k t (.dS (l.zip vals)))):=by
 cases k with
 |int i=>
  induction kv using LP with
  |nil=>obtain⟨v,a,K,t,q⟩:=aQ h;exact .inl ⟨i,v,K,t,rfl,rfl,oh a,q⟩
  |cons=>exact h.elim
 |_=>exact .inr h
theorem ng{prog:Mi}{w:MW}{K:Type}[DecidableEq K]{knd:Sy prog w K}{Ud:Ad}{Ue:Hp}{a:Heap}(R:bg κ H (ad.a9 s.heap.objs.size) {s with heap:=s.heap.push {cls:=.type "dict",data:=.dict #[]}})
  (S:Step dD (ad.a9 s.heap.objs.size) H (s.heap.push {cls:=.type "dict",data:=.dict #[]}) Ud Ue a):a.DictOf knd s.heap.objs.size []:=by
 exact ts (Pl (knd:=knd) s.heap) λo es ep g r=>⟨o,es,ep,S.keep _ _ g (R.zf _ (.inl rfl)) λf=>f.elim,r⟩
theorem tV(R:bg κ H ad s)(h:dH [] [] Q H){pos:Qk}:K7 (Lh κ.prog κ.w) A (NN (.Dict [] [] pos) env) (a' κ dD ad H s.heap Q) E s:=by have fr:s.heap.get? s.heap.objs.size=KT:=aW _ (K9 _);refine wpAny_Dict_empty ?_;have k:=bO s.heap {cls:=.type "dict",data:=.dict #[]};exact K4 h (λr=>g1 r λK t q=>nR (s':={s with heap:=s.heap.push {cls:=.type "dict",data:=.dict #[]}}) R k rfl rfl fr ⟨_,La _ rfl⟩ (x:=.dI []) ⟨[],Pl _,.nil⟩ q) λa=>K4 a (λb=>g1 b λK t q=>nR (s':={s with heap:=s.heap.push {cls:=.type "dict",data:=.dict #[]}}) R k rfl rfl fr ⟨_,La _ rfl⟩ (x:=.dP []) ⟨[],Qy _,.nil⟩ q) λc=>g1 c λK t q=>nR (s':={s with heap:=s.heap.push {cls:=.type "dict",data:=.dict #[]}}) R k rfl rfl fr ⟨_,La _ rfl⟩ (x:=.dN []) ⟨[],Qy _,.nil⟩ q
theorem u'{ks:List DK}{vs:List Ex}(ih:∀m∈vs,SE κ G C d m):SE κ G C d (.dict ks vs):=by
 intro e nm gl hc A E env J Q H ad s hA V R hw;obtain⟨kv,K,W⟩:=aQ hw;refine tI hc λh1 h2 L n=>?_;replace L:=of_decide_eq_true L;replace n:=of_decide_eq_true n;clear hw hc;cases ks with
 |nil=>
  clear n h2 ih;cases vs with
  |cons _ _=>exact(nomatch L)
  |nil=>(replace K:=KP K;subst K);exact tV R W
 |cons P v=>
  have fr:s.heap.get? s.heap.objs.size=KT:=aW _ (K9 _);have k:=bO s.heap {cls:=.type "dict",data:=.dict #[]};have g:bg κ H (ad.a9 s.heap.objs.size) {s with heap:=s.heap.push {cls:=.type "dict",data:=.dict #[]}}:=R.a9 k rfl rfl fr ⟨_,La _ rfl⟩;have T:=Bi (E:=E) (xs:=uf e) (pos:=e.pos) ih h1 h2 L K hA (s:={s with heap:=s.heap.push {cls:=.type "dict",data:=.dict #[]}}) (V.a9 (I:=s.heap.objs.size) k fr) g W;refine ay (vy nm (P::v) (uf e)) λha B=>?_;have l1:(DK.cP nm (P::v) (uf e)).length=(Ex.cP nm vs (cu e)).length:=by simp only[B,qz,L]
  have l2:(DK.cP nm (P::v) (uf e)).length<=15:=Z B (Z L n);obtain⟨F,e1,K⟩:=bG K;obtain⟨kr,e2,rfl⟩:=fz K;by_cases ci:∃i,F=.int i
  ·clear e1 K;obtain⟨i,rfl⟩:=ci
   refine Tm (knd:=MC κ.prog κ.w) ha l1 (RS _ _) l2 (Lc T (λps M p=>?_) λ_ _ y=>y);obtain⟨Ud,Ue,vals,q,X,rv,h,S⟩:=p;clear K T W e2;rcases mW q with⟨j,w,kk,t,e,rfl,rfl,q⟩ |q
   ·(injection e with e;subst e)
    obtain⟨x,r,e,⟨u,rfl⟩,rfl⟩:=X;obtain⟨y,r',e',ry,rfl⟩:=rv;cases ps with
    |nil=>exact(nomatch e)
    |cons p ps=>obtain⟨px,py⟩:=p;injection e with e3 e4;injection e' with e5 e6;clear e6;obtain rfl:=Rc.mp e4;obtain rfl:px=_:=e3;obtain rfl:py=_:=e5;exact⟨[(i,py)],⟨NF _ _ _ _,rfl,trivial⟩,ng g S,λh' D hs=>pM (kv:=[]) (vals:=[w]) (ps:=[]) R rfl h S hs D (o:=.dI [(i,w)]) (λad' cy=>⟨_,D,.cons ⟨rfl,cy _ _ ry⟩ .nil⟩) q⟩
   ·exact q.elim
  ·refine Tm (knd:=Mh κ.prog κ.w) ha l1 (RS _ _) l2 (Lc T (λps M p=>?_) λ_ _ y=>y)
   obtain⟨Ud,Ue,vals,q,X,rv,h,S⟩:=p;refine K4 (mW q) (λz=>q1 z λj w kk t e _=>absurd ⟨j,e⟩ ci) λq=>?_
   ·obtain⟨l,aa,nd,cQ,_,kk,t,q⟩:=aQ q
    obtain⟨N,c,f,m⟩:=vj aa cQ X rv;have ac:(N.map (·.1)).Nodup:=by exact Z m (Ti _ (λa b ne e=>ne (ct _ _ e)) nd)
    refine⟨N,c,ng g S,λh' D hs=>?_⟩;replace D:=(merged_nil_of_nodup _ ac)▸D;exact pM (kv:=F::kr) (vals:=vals) (ps:=[]) R rfl h S hs D (o:=.dS (l.zip vals)) (λad' cy=>⟨_,D,f.bv λ_ _ p=>⟨p.1,cy _ _ p.2⟩⟩) q
theorem fO(k:fG κ G)(V:EnvR κ nm gl env J H ad s.heap)(R:bg κ H ad s)(h:gl.contains x=true)(X:(x==("__debug__":K3))=false){y:KV}(a:κ.mg x=KT)(b:κ.mb x=U y){pos:Qk}{P:KV->Le->Prop}(q:P y s):
  K7 (Lh κ.prog κ.w) A (NN (.Name x pos) env) P E s:=
 Oj V.kind (V.c4 _ h) (Calls.loadGlobal_builtin (Z V.v8 (k.g.keeps R.base)) a (Z V.blt (k.b.keeps R.base)) b q) X
def pe(κ:ds)(d:Nat)(b:BI):Prop:=∀(vs:List V) (xs:List KV) (Q:PV) (H:Hp) (ad:Ad) (s:Le) (A:NO) (E:KV->Le->Prop),ci d A->bg κ H ad s->aF κ H ad s.heap vs xs->pQ b vs Q H->K7 (Lh κ.prog κ.w) A (call b.val xs) (a' κ dD ad H s.heap Q) E s
theorem mG{v:V}(R:aF κ H ad h [v] xs):∃x,xs=[x]/\aJ κ H ad h v x:=by obtain⟨x,r,rfl,R,e⟩:=R;exact⟨x,congrArg _ e,R⟩
theorem Dl{v w:V}(R:aF κ H ad h [v,w] xs):∃x y,xs=[x,y]/\aJ κ H ad h v x/\aJ κ H ad h w y:=by obtain⟨x,r,rfl,R,a⟩:=R;refine aD (mG a) λy e z=>?_;clear a;subst e;exact⟨x,y,rfl,R,z⟩
theorem oe{p:V->Prop}(h:bB (mB vs) p)(r:aF κ H ad s.heap vs xs):∃v x,xs=[x]/\aJ κ H ad s.heap v x/\p v:=by obtain⟨v,a,h⟩:=aQ h;rw[oh a] at r;exact aD (mG r) λx e r=>⟨v,x,e,r,h⟩
theorem u9{p:V×V->Prop}(h:bB (xy vs) p)(r:aF κ H ad s.heap vs xs):∃v w x y,xs=[x,y]/\aJ κ H ad s.heap v x/\aJ κ H ad s.heap w y/\p (v,w):=by obtain⟨v,a,h⟩:=aQ h;rw[zj a] at r;exact cR (Dl r) λx y e r R=>⟨_,_,x,y,e,r,R,h⟩
theorem Ek:pe κ d .cQ:=by intro vs xs Q H ad s A E b R r h;obtain⟨v,x,rfl,r,h⟩:=oe h r;obtain⟨ys,y,hz,q⟩:=aQ h;obtain⟨a,w,n,rfl,g,z,f⟩:=da R y r;exact Calls.call_len_list ⟨_,g,rfl,n,rfl⟩ (by have:=N2;lia) (a'.hL R q ⟨_,Z (f.length:ys.length=w.size) rfl⟩)
theorem a'.Ho(R:bg κ H ad s){Q:PV}{v:V}{x:KV}(k:∀b o,s.heap.get? b=U o->h'.get? b=U o)(t:Nat)(q:Q v H)(e:aJ κ H ad s.heap v x):a' κ X ad H s.heap Q x {s with heap:=h',toks:=t}:=
 ⟨ad,H,v,q,e.aL ((bg.cT (X:=dD) (s':={s with heap:=h'}) R k).aL R.au),R.keeps k rfl rfl,bg.cT (s':={s with heap:=h'}) R k⟩
theorem FB:pe κ d .int:=by intro vs xs Q H ad s A E a R r h;obtain⟨v,x,rfl,r,h⟩:=oe h r;obtain⟨i,I,h⟩:=aQ h;rw[c1 I] at r;obtain⟨t,rfl⟩:=r;exact call_int_int (a'.cZ R h ⟨_,rfl⟩)
theorem FU:pe κ d .min:=by
 intro vs xs Q H ad s A E a R r h;refine ta (u9 h r) λv w x y e r b h=>?_;subst e;obtain⟨i,I,h⟩:=aQ h;obtain⟨j,J,h⟩:=aQ h;obtain rfl:v=_:=c1 I;clear I h;obtain rfl:w=_:=c1 J;obtain⟨t,rfl⟩:=r;clear r;obtain⟨u,rfl⟩:=b;refine min_two_ints a.handled λh' tk k=>a'.Ho R k tk h ?_;by_cases c:j<i;·exact Z (if_pos c) (Z (if_pos c) ⟨_,rfl⟩)
 ·exact Z (if_neg c) (Z (if_neg c) ⟨_,rfl⟩)
theorem Et:pe κ d .max:=by
 intro vs xs Q H ad s A E a R r h;refine ta (u9 h r) λv w x y e r b h=>?_;subst e;obtain⟨i,I,h⟩:=aQ h;obtain⟨j,J,h⟩:=aQ h;obtain rfl:v=_:=c1 I;clear I h;obtain rfl:w=_:=c1 J;obtain⟨t,rfl⟩:=r;clear r;obtain⟨u,rfl⟩:=b;refine max_two_ints a.handled λh' tk k=>a'.Ho R k tk h ?_;by_cases c:i<j;·exact Z (if_pos c) (Z (if_pos c) ⟨_,rfl⟩)
 ·exact Z (if_neg c) (Z (if_neg c) ⟨_,rfl⟩)
theorem yN:pe κ d .range:=by intro vs xs Q H ad s A E c R r h;obtain⟨v,x,rfl,r,h⟩:=oe h r;obtain⟨n,N,a,b,h⟩:=aQ h;rw[c1 N] at r;obtain⟨t,rfl⟩:=r;refine call_range_1 ?_;have k:=bO s.heap {cls:=.type "range",data:=.fields #[.int 0 s.toks,.int n t,.int 1 (s.toks+1)]};exact⟨ad,H,_,h,⟨_,_,_,_,rfl,⟨wQ R (K9 _),f' R (aW s.heap (K9 s.heap.objs.size))⟩,La _ rfl,a,b⟩,R.keeps k rfl rfl,bg.cT (s':={s with heap:=_}) R k⟩
theorem Bh:pe κ d .tuple:=by
 intro vs xs Q H ad s A E j R X h;refine cR (oe h X) λv x c r h=>?_;subst c;have ip:(bB (ca H v) λxs=>xs.length<=aN/\Q (.aA xs) H)->K7 (Lh κ.prog κ.w) A (call (.type "tuple") [x]) (a' κ dD ad H s.heap Q) E s:=λh=>by
  obtain⟨ys,y,hz,q⟩:=aQ h;clear X;obtain⟨a,w,n,rfl,g,z,f⟩:=da R y r;refine call_tuple_list ⟨_,g,rfl,n,rfl⟩ (λh' k=>?_) z;have fr:s.heap.get? h'.objs.size=KT:=by
   induction e:s.heap.get? h'.objs.size with
   |none=>rfl
   |some o=>have:=k _ _ e;rw[aW _ (K9 _)] at this;exact al this
  exact na (s':={s with heap:=h'.push {cls:=.type "tuple",data:=.seq w}}) R (λb o e=>bO _ _ _ _ (k b o e)) rfl rfl fr (La _ rfl) z f q
 cases v with
 |aA ys=>clear ip;obtain⟨a,w,n,rfl,i,g,z,f⟩:=id r;exact call_tuple_same ⟨_,g,rfl,n,rfl⟩ (a'.cZ R h r)
 |_=>exact ip h
theorem m3:∀(vs:List V) (xs:List KV) (Q:PV) (H:Hp) (ad:Ad) (s:Le) (A:NO) (E:KV->Le->Prop),ci d A->bg κ H ad s->aF κ H ad s.heap vs xs->(∃v ys,vs=[v]/\ca H v=U ys/\newList ys Q H)->K7 (Lh κ.prog κ.w) A (call (.type "list") xs) (a' κ dD ad H s.heap Q) E s:=by intro vs xs Q H ad s A E i R r h;refine cR h λv ys e y q=>?_;clear h;subst e;refine aD (mG r) λx b c=>?_;subst b;clear r;obtain⟨a,w,n,rfl,g,z,f⟩:=da R y c;exact call_list_seq a (.inl rfl) g rfl rfl (λh' c' k g'=>ej (s':={s with heap:=h'}) R k rfl rfl (aW _ (K9 _)) g' z f q) z
theorem BI.Hz(b:BI):(∃T,b.val=.type T)\/(∃id,b.val=.builtin id):=by
 induction b
 all_goals first |exact .inl ⟨_,rfl⟩ |exact .inr ⟨_,rfl⟩
theorem BZ(k:fG κ G)(ok:pe κ d b)(i:oY κ G C d es){pos:Qk}(g:gl.contains (KR b.name)=true)(hd:fA (KR b.name)=true)(c:Ex.hN nm gl es xs=true)
  (a:ci d A)(V:EnvR κ nm gl env J H ad s.heap)(R:bg κ H ad s){Q:PV}(w:Ex.bh G C es J (λvs h=>pQ b vs Q h) H):K7 (Lh κ.prog κ.w) A (NN (.Call (.Name (KR b.name) p) (Ex.cP nm es xs) [] pos) env) (a' κ dD ad H s.heap Q) E s:=by
 refine ay (k.zn b) λe f=>?_;have cU:∀ad' H' s' vs xs,pQ b vs Q H'->aF κ H' ad' s'.heap vs xs->bg κ H' ad' s'->Step dD ad H s.heap ad' H' s'.heap->K7 (Lh κ.prog κ.w) A (call b.val xs) (a' κ dD ad H s.heap Q) E s':=λad' H' s' vs xs q x r S=>Lc (ok vs xs Q H' ad' s' A E a r x q) (λ_ _ p=>a'.trans S r.au p) λ_ _ y=>y;refine Nx (fO k V R g (hs hd).1 e f ?_);rcases b.Hz with⟨T,t⟩ |⟨T,t⟩
 ·rw[t] at cU⊢
  exact iI i c a V R w cU
 ·rw[t] at cU⊢
  exact dp i c a V R w cU
end
section
set_option backward.match.sparseCases true
variable {A:Around} {h:Heap} {a:Addr} {ep:Nat}
theorem x'{Q:Bool->Le->Prop}(t:s.TypeIs (.ref a) "dict")(q:Q false s):K7 (Lh prog w) A (M' (.ref a)) Q E s:=by
 unfold M';refine KN (Pf t PySem.F.slot_dict_len.lookup ?_);generalize H:("dict.__len__":String)=i
 wp_delta
 refine Z (show splitId i=U ("dict","__len__") from by subst H;decide+kernel) ?_;subst H;refine KN (OV (T:="dict") (b:=true) t (by refine Z (isSubtype_type _ _) ?_;kernel_rfl) ?_);exact Pg (λh=>absurd h (by decide)) (λ_=>Pg (λ_=>KN (O7 t (KY q))) (λh=>absurd (by decide+kernel) h))
theorem Walks.IZ(j:A.handled=none)(I a:Ln)(c:a≠I)(es:Array MF)(ep:Nat):
  Walks prog w A I [I,a] [I] es.size (λi v=>∃e,es[i]? =U e/\v=e.key) (λi h=>h.IsKeyIter I a i es.size ep/\gL h a es ep) where
 sub:=λb H=>by simp at H;simp[H]
 frame:=λ_ _ _ st k=>⟨st.1.at λo e=>k I (by simp) o e,let ⟨o,g,r⟩:=st.2;⟨o,k a (by simp) o g,r⟩⟩
 item:=λi s Q E f st q=>by exact te st.1 st.2 (MB f) λh' t S=>q _ h' s.toks ⟨_,MB f,rfl⟩ ⟨t,let ⟨o,g,r⟩:=st.2;⟨o,S.extBut _ _ c g,r⟩⟩ λb o H e=>S.extBut b o (λh=>H (by simp[h])) e
 done:=λs Q E st q=>wW j st.1 st.2 (K9 _) λh' d=>q h' s.toks λb o H e=>d b o (λh=>H (by simp[h])) e
 self:=λ_ _ _ _ st q=>RW st.1 q
theorem uv{es:Array MF}{acc:Array KV}(h:ItemsOf (λi v=>∃e,es[i]? =U e/\v=e.key) acc es.size):acc.toList=es.toList.map (·.key):=by
 refine RR (by simpa using h.1) λi a b=>aD (h.2 i acc[i] (MB (by simpa using a))) λe H V=>?_;have:i<es.size:=by simpa using b
 rw[MB this] at H
 (replace H:=KP H;subst H)
 simpa using V
theorem l7{R:Result->Le->Prop}(z:A.handled=KT)(hd:(a==NX)=false)(k:gL s.heap a es ep)(N:es.size<=LV)(S:Ln)(res:KV)(i:Nat)(q:s.heap.get? S=U {cls:=.type "list",data:=.seq #[] i})
  (hR:∀h' tk c c',(∀b o,b≠S->s.heap.get? b=U o->h'.get? b=U o)->h'.get? S=U {cls:=.type "list",dict:=KT,data:=.seq c c',slots:=#[]}->
   c.toList=es.toList.map (·.key)->R (.ok (.ret res)) {s with heap:=h',toks:=tk}):
  K7 (Lh prog w) A.in1 (L4 (.ref S) (.ref a) res)
   (λcU s'=>match cU with |.done f=>R (.ok f) s' |.again c'=>c'.quiet=true/\O' (Lh prog w) A c' R s') (λe s'=>R (.error e) s') s:=by
 refine gw (id k) λu G x j=>?_;have l:S≠a:=λe=>by
  simp only[<-e,q] at G
  (replace G:=KP G;clear x;subst G)
  cases j
 have I:S≠s.heap.objs.size:=M5 (Lv q:S<s.heap.objs.size);have key:∀(h:Heap) (C tk:Nat),h.IsKeyIter s.heap.objs.size a 0 es.size ep->gL h a es ep->(∀b o,b≠S->s.heap.get? b=U o->h.get? b=U o)->
   h.get? S=U {cls:=.type "list",data:=.seq #[] C}->O' (Lh prog w) A (.builtin "list.extend.loop" ⟨[.ref S,.ref s.heap.objs.size,res],[]⟩) R {s with heap:=h,toks:=tk}:=by
  intro h C tk v m K H;exact codeAny_extend_loopS ((Walks.IZ (prog:=prog) (w:=w) (A:=A.in1) z s.heap.objs.size a (M5 (Lv G):a≠s.heap.objs.size) es ep).toS) N S (λk=>by simp[I,l] at k) res es.size 0 _ #[] C rfl (Lf _) ⟨v,m⟩ H (ItemsOf.nil _) λs' c c' k y p=>Z (Moved.eq_with k) (hR s'.heap s'.toks c c' (λb o B e=>k.heap b o (λM=>K4 (KZ.mp M) (λE=>B E) λM=>absurd (Lv e) (Z (KU.mp M) (Ni _))) (K b o B e)) y (uv p))
 unfold L4;refine KN (O7 (T:="dict") (⟨u,G,x.1⟩:s.TypeIs (.ref a) "dict") ?_);have D:Nn (.ref S) (.ref a)=false:=by simp[Nn,l]
 simp only[D,(by decide:(M3 "dict"==M3 "list")=false),(by decide:(M3 "dict"==M3 "tuple")=false),SK,L',if_false];refine KN (oz hd k (KN (LX (x' ⟨u,K5 _ G,x.1⟩ ?_))));have t:(s.heap.push {cls:=.type "dict_keyiterator",data:=.fields #[.ref a,.int 0 0,.int es.size 0,.int ep 0]}).IsKeyIter s.heap.objs.size a 0 es.size ep:=
  ⟨_,La _ rfl,rfl,rfl⟩;have H:=K5 {cls:=.type "dict_keyiterator",data:=.fields #[.ref a,.int 0 0,.int es.size 0,.int ep 0]} q;have m:gL (s.heap.push {cls:=.type "dict_keyiterator",data:=.fields #[.ref a,.int 0 0,.int es.size 0,.int ep 0]}) a es ep:=⟨u,K5 _ G,x,j⟩;refine Pg (λ_=>KN (Oy (KN ((KN (Np H rfl ?_)):K7 _ _ (OW S (·.push .none)>>=λ_=>OW S (·.pop)) _ _ _)))) (λ_=>KY ⟨OP M1 _,key _ i _ t m (λb o _ e=>K5 _ e) H⟩);have d:=Ma (Obj.mapSeq (·.push Mg)) H rfl;refine Np (hz:=by seq_fits) d rfl ?_;have n:∀b o,b≠S->(s.heap.push {cls:=.type "dict_keyiterator",data:=.fields #[.ref a,.int 0 0,.int es.size 0,.int ep 0]}).get? b=U o->(((s.heap.push {cls:=.type "dict_keyiterator",data:=.fields #[.ref a,.int 0 0,.int es.size 0,.int ep 0]}).update S (Obj.mapSeq (·.push Mg))).update S (Obj.mapSeq (·.pop))).get? b=U o:=
  λb o B e=>(Mm _ _ (Qs B)).trans ((Mm _ _ (Qs B)).trans e);refine KY ⟨OP M1 _,key _ _ _ (t.at λo e=>n _ o I.symm e) ?_ (λb o B e=>n b o B (K5 _ e)) (Ma (Obj.mapSeq (·.pop)) d rfl)⟩;·exact aD m λo g r=>⟨o,n _ o l.symm g,r⟩
theorem xv{Q:KV->Le->Prop}(i:A.handled=KT)(hd:(a==NX)=false)(m:gL s.heap a es ep)(h:es.size<=LV)
  (q:∀h' tk c c',(∀b o,s.heap.get? b=U o->h'.get? b=U o)->h'.get? s.heap.objs.size=U {cls:=.type "list",dict:=KT,data:=.seq c c',slots:=#[]}->c.toList=es.toList.map (·.key)->Q (.ref s.heap.objs.size) {s with heap:=h',toks:=tk}):
  K7 (Lh prog w) A (call (.type "list") [.ref a]) Q E s:=by
 refine TK (Q₁:=λobj S=>obj=.ref s.heap.objs.size/\S={s with heap:=s.heap.push {cls:=.type "list",data:=.seq #[]}}) RN (Q1 _) Q2
  (T2 _ ⟨rfl,rfl⟩) λobj S Uh=>?_;obtain⟨rfl,rfl⟩:=Uh;refine gw (id m) λj G x H=>?_;have f:(s.heap.push {cls:=.type "list",data:=.seq #[]}).get? s.heap.objs.size=U {cls:=.type "list",data:=.seq #[]}:=La _ rfl;refine⟨⟨_,f,rfl⟩,QR _ _,((KN ?_):K7 _ _ (do let vk<-NE (.ref s.heap.objs.size);PL (.ref s.heap.objs.size) (λ_=>#[]);letGo vk.toList.reverse;L4 (.ref s.heap.objs.size) (.ref a) .none) _ _ _)⟩;unfold NE;refine KN (Mn f rfl (KY ((KN (Np f rfl ?_)):K7 _ _ (OW s.heap.objs.size (λ_=>#[])>>=λ_=>letGo (#[]:Array KV).toList.reverse>>=λ_=>L4 (.ref s.heap.objs.size) (.ref a) .none) _ _ _)));have d:∀b o,b≠s.heap.objs.size->(s.heap.push {cls:=.type "list",data:=.seq #[]}).get? b=U o->((s.heap.push {cls:=.type "list",data:=.seq #[]}).update s.heap.objs.size (Obj.mapSeq (λ_=>(#[]:Array KV)))).get? b=U o:=
  λb o B e=>(Mm _ _ (Qs B)).trans e;have n:∀{b:Ln} {o:Lg},s.heap.get? b=U o->b≠s.heap.objs.size:=λe=>M5 (Lv e);exact KN (OH (l7 (A:=A.in1) (ep:=ep) i hd ⟨j,d _ _ (n G) (K5 _ G),x,H⟩ h _ .none _ (Ma (Obj.mapSeq (λ_=>(#[]:Array KV))) f rfl) λh' tk c c' k g C=>⟨rfl,q h' tk c c' (λb o e=>k b o (n e) (d b o (n e) (K5 _ e))) g C⟩))
set_option tactic.hygienic true in
theorem j7{Q:List KV->Le->Prop}(i:A.handled=KT)(hd:(a==NX)=false)(m:gL s.heap a es ep)(H:es.size<=LV)
  (j:∀h' tk,(∀b o,s.heap.get? b=U o->h'.get? b=U o)->Q (es.toList.map (·.key)) {s with heap:=h',toks:=tk}):K7 (Lh prog w) A (collect (.ref a)) Q E s:=by
 unfold collect
 refine KN (wpAny_runValue (Ph PySem.F.entry_proto_collect (Z (N7 PySem.F.plain_proto_collect _) ((KN (M8 (KY ⟨OP Ql _,Ph PySem.F.entry_list_iadd (Z (N7 Ql _) ((gw (id m) λk G x t=>?_):K7 _ A.in1 (L4 (.ref s.heap.objs.size) (.ref a) (.ref s.heap.objs.size)) _ _ _))⟩))):K7 _ A.in1 (Qn []>>=λl=>again (.builtin "list.__iadd__" ⟨[l,.ref a],[]⟩)) _ _ s))))
 have p:(s.heap.push {cls:=.type "list",data:=.seq ([]:List KV).toArray}).get? s.heap.objs.size=U {cls:=.type "list",data:=.seq #[] 0}:=La _ rfl
 refine Lc (l7 (prog:=prog) (w:=w) (A:=A) (ep:=ep) (R:=λr s'=>r=.ok (.ret (.ref s.heap.objs.size))/\∃o xs n,s'.heap.get? s.heap.objs.size=U o/\o.data=.seq xs n/\Q xs.toList s') (s:={s with heap:=s.heap.push {cls:=.type "list",data:=.seq ([]:List KV).toArray}})
  i hd ⟨k,K5 _ G,x,t⟩ H _ _ 0 p λh' tk C c' K S c=>⟨rfl,_,_,_,S,rfl,Z c (j h' tk λb o e=>K b o ((λe=>M5 (Lv e)) e) (K5 _ e))⟩) (λcU s' h=>?_) (λe s' h=>absurd h.1 (by simp))
 have done:∀s':Le,(∃o xs n,s'.heap.get? s.heap.objs.size=U o/\o.data=.seq xs n/\Q xs.toList s')->K7 (Lh prog w) A (match MG s.heap.objs.size with
   |Value.ref a=>do
    match(<-load a).data with
     |Data.seq xs _=>pure xs.toList
     |_=>unsupported "internal:collect"
   |_=>unsupported "internal:collect") Q E s':=λs' ⟨o,xs,n,g,D,q⟩=>by
  refine((KN (wpAny_load g ?_)):K7 _ A (load s.heap.objs.size>>=_) _ _ _)
  exact Z D (KY q)
 induction cU with
 |done f=>
  obtain⟨e,r⟩:=h
  (injection e with e;subst e)
  exact done s' r
 |again c'=>exact⟨h.1,Ou h.2 λr d u=>by obtain⟨rfl,r⟩:=u;exact done d r⟩
end
theorem li(a:Int):∀l:List Int,(jU (λa b=>decide (a<=b)) a l).Perm (a::l)
 |[]=>Oc _
 |b::r=>by
  simp only[pO];split;·exact Oc _
  ·exact((li a r).cons b).trans (Re a b r)
theorem oK:∀l:List Int,(cE l).Perm l
 |[]=>Oc _
 |a::r=>(li a _).trans ((oK r).cons a)
set_option tactic.hygienic true in
theorem lH(a:Int):∀l:List Int,l.Pairwise (·<=·)->(jU (λa b=>decide (a<=b)) a l).Pairwise (·<=·)
 |[],_=>by simp[yR]
 |b::r,h=>by
  simp only[pO]
  simp only[Ml] at h
  split
  ·rename_i c
   have c:a<=b:=of_decide_eq_true c
   refine Ml.mpr ⟨λx hx=>?_,Ml.mpr h⟩
   rcases KZ.mp hx with rfl |hx
   ·exact c
   ·exact MI c (h.1 x hx)
  ·rename_i c
   have c:¬a<=b:=λe=>c (decide_eq_true e)
   refine Ml.mpr ⟨λx hx=>?_,lH a r h.2⟩
   rcases KZ.mp ((li a r).mem_iff.mp hx) with rfl |hx
   ·lia
   ·exact h.1 x hx
theorem kj:∀l:List Int,(cE l).Pairwise (·<=·)
 |[]=>Qm
 |a::r=>lH a _ (kj r)
theorem jF:∀{l m:List Int},l.Perm m->l.Pairwise (·<=·)->m.Pairwise (·<=·)->l=m
 |[],m,p,_,_=>by rw[List.nil_perm] at p;exact p.symm
 |a::l,[],p,_,_=>by have:=p.length_eq;simp at this
 |a::l,b::m,p,h,H=>by
  simp only[Ml] at h H;have e:a=b:=by
   have A:b∈a::l:=p.mem_iff.mpr KX;have B:a∈b::m:=p.mem_iff.mp KX;refine K4 (KZ.mp A) (λe=>e.symm) λA=>?_
   ·refine K4 (KZ.mp B) (λe=>e) λB=>?_
    have:=h.1 b A;have:=H.1 a B;lia
  subst e;exact Z (jF (List.Perm.cons_inv p) h.2 H.2) rfl
section
variable {A:Around} {h:Heap}
theorem nV:∀{l:List Int} {vs:List KV},aF κ H ad h (ae l) vs->Qf vs l
 |[],_,e=>by subst e;exact .nil
 |i::l,vs,e=>by obtain⟨x,r,rfl,⟨t,rfl⟩,e⟩:=e;exact .cons i t (nV e)
theorem uh(e:Qf vs l):aF κ H ad h (ae l) vs:=by
 induction e with
 |nil=>rfl
 |cons n t _ i=>exact⟨_,_,rfl,⟨t,rfl⟩,i⟩
theorem gf(e:Qf vs l):vs.length=l.length:=by
 induction e with
 |nil=>rfl
 |cons _ _ _ i=>exact congrArg (·+1) i
theorem vx{c:Type}{f:c->V}{out:List KV}(p:out.Perm vs):∀{l:List c},aF κ H ad h (l.map f) vs->∃m:List c,m.Perm l/\aF κ H ad h (m.map f) out:=by
 induction p with
 |nil=>intro l e;induction l using LP with
  |nil=>exact⟨[],Oc _,e⟩
  |cons _ _=>obtain⟨_,_,e,_⟩:=e;cases e
 |cons x p I=>
  intro l e;induction l using LP with
  |nil=>cases e
  |cons a l=>obtain⟨y,r,e,R,d⟩:=e;obtain⟨rfl,rfl⟩:=LR e;exact aD (I d) λm P M=>⟨a::m,P.cons a,_,_,rfl,R,M⟩
 |swap x y r=>
  intro l e;induction l using LP with
  |nil=>cases e
  |cons a l=>
   obtain⟨_,_,e,R,E⟩:=e;obtain⟨rfl,rfl⟩:=LR e;induction l using LP with
   |nil=>cases E
   |cons b l=>obtain⟨_,_,e,d,j⟩:=E;obtain⟨rfl,rfl⟩:=LR e;exact⟨b::a::l,Re a b l,_,_,rfl,d,_,_,rfl,R,j⟩
 |trans _ _ k n=>intro l e;exact aD (n e) λm P M=>aD (k M) λo g i=>⟨o,g.trans P,i⟩
theorem Hl{vs:Array KV}:MR "list" vs e={cls:=.type "list",data:=.seq vs e}:=rfl
theorem lP{m:List Int}(p:m.Perm l)(q:m.Pairwise (·<=·)):m=cE l:=jF (p.trans (oK l).symm) q (kj l)
theorem Jl:64<=LV:=by refine Z N2 ?_;decide
theorem kh{n m:Nat}(h:m<64)(e:n=m):n<=LV:=Z e (KQ (LJ h) Jl)
theorem Iq{a:Type}{out:Array a}{n:Nat}(e:out.toList.length=n):out.size=n:=e
theorem nG{ys:List V}(R:bg κ H ad s)(r:aJ κ H ad s.heap v x)(y:ca H v=U ys)(h:uQ ys Q H):K7 (Lh κ.prog κ.w) A (call (.builtin "sorted") [x]) (a' κ dD ad H s.heap Q) E s:=by refine ay h λb h=>?_;obtain⟨l,L,q⟩:=aQ h;obtain⟨a,w,n,rfl,g,z,f⟩:=da R y r;rw[i9 L] at f b;have i:=nV f;have b:l.length<64:=K6 (K2 (KS _).symm) b;refine sorted_ints (vs:=w.toList) ⟨_,g,rfl,n,rfl⟩ i (Z (gf i) b) λout N a1 a2 a3=>?_;obtain⟨e,c⟩:=sortedAll_at s.heap w.toList out;cases lP a2 a3;exact ej (s':={s with heap:=sortedAll s.heap w.toList out}) R (λ_ _=>sortedAll_old) rfl rfl (aW _ (LN _)) c (kh b ((gf a1).trans a2.length_eq)) (xs:=ae (cE l)) (uh a1) q
theorem Ce{l:List (List Int×V)}:∀{u:List KV},(∀e∈l,e.1≠[])->aF κ H ad s.heap (l.map λe=>V.aA (ae e.1)) u->∀v∈u,h7 s.heap v:=by
 induction l with
 |nil=>intro u _ e v h;subst e;cases h
 |cons p l I=>
  intro u N e v h;obtain⟨y,r,rfl,b,c⟩:=e;refine K4 (KZ.mp h) (λrfl=>?_) λh=>I (λe d=>N e (K1 _ d)) c v h
  ·refine aD (aJ.tk b) λa E R=>cR R λw n g z i=>?_;clear h b;subst E
   refine⟨a,w,n,rfl,g,λe=>?_,λx hx=>?_⟩
   ·clear z g;subst e
    exact N p KX (List.eq_nil_of_length_eq_zero i.length)
   ·have:∀(k:List Int) (u:List KV),R2 (MC κ.prog κ.w) k u->∀x∈u,∃i t,x=PJ i t:=by
     intro k u i;induction i with
     |nil=>intro x hx;exact(nomatch hx)
     |cons f _ I=>
      intro x hx;rcases KZ.mp hx with rfl |hx
      ·obtain⟨t,e⟩:=Px f;exact⟨_,t,e⟩
      ·exact I x hx
    exact this _ _ i x hx
theorem yg(B:fG κ G):pe κ d .sorted:=by
 intro vs xs Q H ad s A E C R X h;refine cR (oe h X) λv x c j h=>?_;subst c;cases v with
 |fl ys=>exact nG R j rfl h
 |ref r=>
  obtain⟨o,i,h⟩:=aQ h;induction o with
  |list ys=>exact nG R j (by refine((Z i ?_):(H.o r).bind Obj.ip=_);rfl) h
  |dI es=>obtain⟨b,q⟩:=h;obtain⟨rfl,_⟩:=j;refine eB (rS (R.obj _ _ i)) λS ep N f=>?_;have I:=nV f;have cQ:=gf I;rw[KS] at cQ;have L:(es.map (·.1)).length=es.length:=KS _;have dl:(S.toList.map (·.key)).length<64:=Z (gf I) (Z L b);have hz:S.size<=LV:=kh b (cQ.trans L);refine ka (vs:=S.toList.map (·.key)) (Good:=λout=>∃n,Qf out n/\n.Perm (es.map (·.1))/\n.Pairwise (·<=·)) (KQ (LJ dl) Jl) (λp F u k=>j7 u (e7 B R (bx i)) N hz k) C.handled (λp Uh t a P K w y=>list_sort_tree (s:={s with heap:=Uh,toks:=t}) w I dl λout n a1 a2 a3=>y out ⟨n,a1,a2,a3⟩) (λh' D out e t k fr g u8=>gw u8 λn a1 a2 a3=>?_);cases lP a2 a3;exact ej (s':={s with heap:=h',toks:=t}) R k rfl rfl fr g (kh b ((gf a1).trans (a2.length_eq.trans L))) (xs:=ae (cE (es.map (·.1)))) (uh a1) q
  |dP es=>
   refine cH h λb z q=>?_;obtain⟨rfl,_⟩:=j;refine eB (we (R.obj _ _ i)) λS ep N f=>?_;have cQ:=f.length;rw[KS] at cQ;have T:=Ce z f;have dl:(S.toList.map (·.key)).length<64:=hR cQ b;have hz:S.size<=LV:=kh b ((KS _).symm.trans cQ.symm);refine ka (vs:=S.toList.map (·.key)) (Good:=λout=>out.Perm (S.toList.map (·.key))) (KQ (LJ dl) Jl) (λp F u k=>j7 u (e7 B R (bx i)) N hz k) C.handled
    (λp Uh t a P K w y=>pb (s:={s with heap:=Uh,toks:=t}) w (λv J=>(T v J).keep K) dl λout a1=>y out.toArray a1) (λh' D out e t k fr g u8=>?_);have M:aF κ H ad s.heap ((es.map (·.1)).map λl=>V.aA (ae l)) (S.toList.map (·.key)):=Z QJ f;exact aD (vx u8 M) λm W rm=>ej (s':={s with heap:=h',toks:=t}) R k rfl rfl fr g (kh b (u8.length_eq.trans cQ.symm)) rm (q m W)
  |_=>exact h.elim
 |_=>exact h.elim
theorem C'(K:fG κ G):pe κ d .list:=by
 intro vs xs Q H ad s A E b R X h;obtain⟨v,V,h⟩:=aQ h;replace X:=(oh V)▸X;clear V;cases v with
 |ref r=>
  obtain⟨o,c,h⟩:=aQ h;induction o with
  |list ys=>exact m3 _ _ Q H ad s A E b R X ⟨_,ys,rfl,by refine((Z c ?_):(H.o r).bind Obj.ip=_);rfl,h⟩
  |dI es=>
   refine aD (mG X) λx a i=>?_;subst a;obtain⟨rfl,_⟩:=i;refine eB (rS (R.obj _ _ c)) λD ep n f=>?_;have cQ:=f.length;simp only[KS] at cQ;have hz:D.size<=LV:=by have:=dv (gT h);rw[cQ] at this;exact this
   exact xv b.handled (e7 K R (bx c)) n hz λh' tk C c' k g e=>ej (s':={s with heap:=h',toks:=tk}) R k rfl rfl (aW _ (K9 _)) g (by simp only[<-Lq,e,KS];exact hz) (by simp only[e];exact f) h
  |_=>exact h.elim
 |fl ys=>exact m3 _ _ Q H ad s A E b R X ⟨_,ys,rfl,rfl,h⟩
 |_=>exact h.elim
theorem r5{N₀:Ln}(c:fJ ad H h ad' H a)(i:∀N x y,N₀<=N->Nv a N x y->jx H ad' N):∀{s W:List V} {xs ys vs:List KV},aF κ H ad h s xs->aF κ H ad h W ys->cC a N₀ vs (xs.zip ys)->
   aF κ H ad' a ((s.zip W).map λp=>V.aA [p.1,p.2]) vs
 |[],_,xs,ys,vs,e,E,p=>by subst e;cases p;rfl
 |u::s,[],xs,ys,vs,e,E,p=>by obtain⟨x,xs,rfl,r,e⟩:=e;subst E;cases p;rfl
 |u::s,w::W,xs,ys,vs,e,E,p=>by
  obtain⟨x,xs,rfl,r,e⟩:=e;obtain⟨y,ys,rfl,R,E⟩:=E;cases p with
  |@cons N _ _ vs _ n P p=>exact⟨_,_,rfl,⟨N,#[x,y],0,rfl,i N x y n P,P,by refine((Z N2 ?_):2<=LV);decide,x,[y],rfl,r.aL c,y,[],rfl,R.aL c,rfl⟩,r5 c i e E p⟩
theorem FO(T:ci d A)(R:bg κ H ad s)(X:aF κ H ad s.heap vs xs)(h:pQ .e' vs Q H):
  K7 (Lh κ.prog κ.w) A (call (.type "zip") xs) (λz s'=>K7 (Lh κ.prog κ.w) A (call (.type "list") [z]) (a' κ dD ad H s.heap Q) E s') E s:=by
 refine ta (u9 h X) λv w x y i X W h=>?_;subst i;obtain⟨us,G,h⟩:=aQ h;obtain⟨ws,hw,h⟩:=aQ h;obtain rfl:v=_:=n7 G;clear G h;obtain rfl:w=_:=n7 hw;obtain⟨a,xs,n,rfl,ia,ga,I,fa⟩:=X;clear X;obtain⟨b,ys,m,rfl,ib,gb,zb,fb⟩:=W;refine mm ⟨_,ga,rfl,n,rfl⟩ ⟨_,gb,rfl,m,rfl⟩ λh' z TI TO i1 i2 D Z J M lt l1 l2 k=>Aa (s:={s with heap:=h'}) T.handled I D Z J λf u c K g p=>?_;have Dk:∀{a:Ln} {o:Lg} {N:Ln},s.heap.get? a=U o->s.heap.objs.size<=N->a≠N:=λe t=>M5 (Li (Lv e) t);have B:∀b o,s.heap.get? b=U o->f.get? b=U o:=λb o e=>K b o (Dk e M) (Dk e lt) (Dk e l1) (Dk e l2) (k b o e);have S:s.heap.objs.size<=h'.objs.size:=LJ (K6 M (Lv J));have F:s.heap.get? h'.objs.size=KT:=aW _ S;have hz:u.size<=LV:=by have L:=p.length;simp only[Sc] at L;exact KQ (K2 L) (KQ (Qg _ _) I)
 have R':bg κ H (ad.a9 h'.objs.size) {s with heap:=f}:=R.a9 B rfl rfl F ⟨_,g⟩;refine pV R' (f' R F) (ef R F) g hz (r5 (cy B F) (λN x y t hp=>⟨λl=>?_,λq=>?_⟩) fa fb p) (bg.cT (s':={s with heap:=f}) R B) F h
 ·refine aD l λr hr e=>?_
  obtain⟨o,j⟩:=R.c0 ⟨r,hr,e⟩;replace j:=(aW _ (KQ S t))▸j;exact al j
 ·rcases q with q |q
  ·clear t;subst q
   have P:f.get? h'.objs.size=_:=hp;simp only[g] at P;have C:M3 "list"=M3 "tuple":=congrArg Ri (KP P);injection C with C;exact absurd C (by decide)
  ·obtain⟨o,j⟩:=R.lD N q
   replace j:=(aW _ (KQ S t))▸j;exact al j
theorem pZ{sh:Bool}(k:fG κ G)(V:EnvR κ nm gl env J H ad s.heap)(R:bg κ H ad s)(h:gl.contains (KR "list")=true){P:KV->Le->Prop}(q:P (.type "list") s):K7 (Lh κ.prog κ.w) A (NN (.Name (KR "list") p) env) P E s:=
 fO k V R h rfl (k.zn .list).1 (k.zn .list).2 q
theorem oS(r:List K0)(env:Py):Mu (.Name x p::r) env=(false,NN (.Name x p) env)::Mu r env:=rfl
theorem rH(k:fG κ G)(I:SE κ G C d e){P pos:Qk}(x:gl.contains (KR "isinstance")=true)(c:gl.contains (KR "list")=true)(m:e.ok nm gl a=true)
  (o:ci d A)(V:EnvR κ nm gl env J H ad s.heap)(R:bg κ H ad s){Q:PV}(w:e.wp G C J (λv h=>pQ .g8 [v] Q h) H):K7 (Lh κ.prog κ.w) A (NN (.Call (.Name (KR "isinstance") p) [e.py nm a,.Name (KR "list") P] [] pos) env) (a' κ dD ad H s.heap Q) E s:=by
 refine Nx (fO k V R x rfl (k.zn .g8).1 (k.zn .g8).2 ?_);have j:Mu [e.py nm a,.Name (KR "list") P] env=[(false,NN (e.py nm a) env),(false,NN (.Name (KR "list") P) env)]:=dt _ _ _ _ _;have i:(NY pos (Mu [e.py nm a,.Name (KR "list") P] env)).any (·.1)=false:=by refine Z j ?_;rfl
 refine QD i ?_;have cU:K7 (Lh κ.prog κ.w) A (spliced (NY pos (Mu [e.py nm a,.Name (KR "list") P] env))) (λxs s'=>K7 (Lh κ.prog κ.w) A (call (.builtin "isinstance") xs) (a' κ dD ad H s.heap Q) E s') E s:=by refine Qe (Lc (I a nm gl m A E env J _ H ad s o V R w) (λu l q=>?_) λ_ _ y=>y) (dt e nm a _ env);obtain⟨Ud,Ue,v,q,X,r,S⟩:=q;refine Qe (pZ (sh:=true) k (V.step S r.au) r c (Rv ?_)) (oS [] env);obtain⟨ys,t,q⟩:=aQ q;obtain⟨b,W,n,rfl,g,z,f⟩:=da r t X;exact S8 g rfl (a'.trans S r.au (a'.cZ r q rfl))
 rw[j] at cU⊢;exact OY cU
theorem yl(k:fG κ G)(i:oY κ G C d es){pos P:Qk}(x:gl.contains (KR "list")=true)(a:gl.contains (KR "zip")=true)(f:Ex.hN nm gl es xs=true)
  (b:ci d A)(V:EnvR κ nm gl env J H ad s.heap)(R:bg κ H ad s){Q:PV}(w:Ex.bh G C es J (λvs h=>pQ .e' vs Q h) H):K7 (Lh κ.prog κ.w) A (NN (.Call (.Name (KR "list") p) [.Call (.Name (KR "zip") e) (Ex.cP nm es xs) [] P] [] pos) env) (a' κ dD ad H s.heap Q) E s:=by
 exact Nx (pZ (sh:=true) k V R x (Pr (by rfl) (OY (Qe (Nx (fO k V R a rfl k.HD.1 k.HD.2 (iI i f b V R w λad' H' s' vs u q X r S=>Lc (FO b r X q) (λz c p=>Rv (Lc p (λ_ _ p=>a'.trans S r.au p) λ_ _ y=>y)) λ_ _ y=>y))) rfl))))
theorem sZ(k:fG κ G)(b:BI)(i:oY κ G C d es)(I:∀m∈es,SE κ G C d m):SE κ G C d (.bi b es):=by
 intro e nm gl c A E env J Q H ad s a V R w;have go:∀B,pe κ d B->(gl.contains (KR B.name)&&(fA (KR B.name)&&Ex.hN nm gl es (cu e).tail))=true->Ex.bh G C es J (λvs h=>pQ B vs Q h) H->
   K7 (Lh κ.prog κ.w) A (NN (.Call (.Name (KR B.name) (cO e 0).pos) (Ex.cP nm es (cu e).tail) [] e.pos) env) (a' κ dD ad H s.heap Q) E s:=λB ok c w=>BZ k ok i (bu c).1 (bu (bu c).2).1 (bu (bu c).2).2 a V R w;cases b with
 |cQ=>exact go _ Ek c w
 |list=>exact go _ (C' k) c w
 |tuple=>exact go _ Bh c w
 |sorted=>exact go _ (yg k) c w
 |e'=>exact yl k i (bu c).1 (bu (bu c).2).1 (bu (bu c).2).2 a V R w
 |range=>exact go _ yN c w
 |min=>exact go _ FU c w
 |max=>exact go _ Et c w
 |int=>exact go _ FB c w
 |g8=>
  refine tI c λx y f c=>?_;cases es with
  |nil=>exact nomatch f
  |cons m M=>
   cases M with
   |nil=>exact rH k (I m KX) x y (bu c).1 a V R w
   |cons _ _=>exact nomatch f
 |dict=>exact go .dict (λvs xs Q H ad s A E a R r h=>h.elim) c w
end
theorem xA(k:fG κ G)(b:BI)(i:oY κ G C d es)(I:∀m∈es,SE κ G C d m):ST κ G C d (.bi b es):=jj (sZ k b i I) (λJ Q H h=>h) λe nm env=>by induction b<;>rfl
theorem Ft{m:Ex}(h:∀J Q H,¬m.wp G C J Q H):SE κ G C d m:=λe nm gl c A E env J Q H ad s a V R w=>(h J Q H w).elim
theorem lc{m:Ex}(h:∀J Q H,¬m.rQ G C J Q H):ST κ G C d m:=λe nm gl c A E env J Q H ad s a V R w=>(h J Q H w).elim
section
variable (KO:fG κ G) (CO:hg κ C d)
include KO CO
mutual
theorem cc:∀m:Ex,SE κ G C d m/\ST κ G C d m
 |.aE c=>⟨xZ c,lc λ_ _ _ h=>h⟩
 |.var i=>⟨qq i,uH i⟩
 |.c4 x=>⟨vC KO x,lc λ_ _ _ h=>h⟩
 |.ao e f=>⟨vz KO (cc e).1 f,lc λ_ _ _ h=>h⟩
 |.sub e i=>⟨xP KO (cc e).1 (cc i).1,lc λ_ _ _ h=>h⟩
 |.gk e i=>⟨tL (cc e).1 (cc i).1,lc λ_ _ _ h=>h⟩
 |.ED e=>⟨w9 (cc e).1,lc λ_ _ _ h=>h⟩
 |.aA es=>⟨x2 (dV es).1,lc λ_ _ _ h=>h⟩
 |.list es=>⟨ur (dV es).1,lc λ_ _ _ h=>h⟩
 |.dict k vs=>⟨u' (λm H=>((dV vs).2 m H).1),lc λ_ _ _ h=>h⟩
 |.hQ op a b=>⟨yo (cc a).1 (cc b).1 op,lc λ_ _ _ h=>h⟩
 |.bV op a b=>⟨xf KO (cc a).1 (cc b).1 op,vQ KO (cc a).1 (cc b).1 op⟩
 |.not a=>⟨Ft λ_ _ _ h=>h,uR (cc a).2⟩
 |.and es=>⟨Ft λ_ _ _ h=>h,u4 λm H=>((dV es).2 m H).2⟩
 |.or es=>⟨Ft λ_ _ _ h=>h,xN λm H=>((dV es).2 m H).2⟩
 |.cG c a b=>⟨xn (cc c).2 (cc a).1 (cc b).1,lc λ_ _ _ h=>h⟩
 |.call f es=>⟨nF KO CO (dV es).1 f,t6 KO CO (dV es).1 f⟩
 |.az e m es=>⟨m5 KO CO (cc e).1 (dV es).1 m,sR KO CO (cc e).1 (dV es).1 m⟩
 |.bi b es=>⟨sZ KO b (dV es).1 (λm H=>((dV es).2 m H).1),xA KO b (dV es).1 (λm H=>((dV es).2 m H).1)⟩
 |.new K es=>⟨yc KO CO (dV es).1 K,lc λ_ _ _ h=>h⟩
 |.comp elt i it c=>⟨vg KO (cc elt).1 (cc it).1 (Dz c),lc λ_ _ _ h=>h⟩
theorem dV:∀M:List Ex,oY κ G C d M/\∀m∈M,SE κ G C d m/\ST κ G C d m
 |[]=>⟨sy,λ_ h=>nomatch h⟩
 |m::M=>⟨ra (cc m).1 (dV M).1,λx hx=>by
  rcases KZ.mp hx with e |hx
  ·rw[e];exact cc m
  ·exact(dV M).2 x hx⟩
theorem Dz:∀c:Option Ex,∀e,c=U e->ST κ G C d e
 |none=>λ_ h=>nomatch h
 |some e=>λ_ h=>by cases h;exact(cc e).2
end
mutual
theorem Ae:∀t:Tg,SG κ G C d t
 |.var i=>ve i
 |.ao e f=>tE KO (cc KO CO e).1 f
 |.sub e i=>vu KO (cc KO CO e).1 (cc KO CO i).1
 |.aA T=>uE (Bx T)
theorem Bx:∀T:List Tg,Jj κ G C d T
 |[]=>λ_ h=>nomatch h
 |t::T=>λx hx=>by
  rcases KZ.mp hx with e |hx
  ·rw[e];exact Ae t
  ·exact Bx T x hx
end
mutual
theorem HO:∀m:St,SS κ G C d m
 |.expr e=>sx (cc KO CO e).1
 |.a8 t e=>uy KO (Ae KO CO t) (cc KO CO e).1 λelt i it c h=>⟨(cc KO CO elt).1,(cc KO CO it).1,Dz KO CO c⟩
 |.md e i=>vh KO (cc KO CO e).1 (cc KO CO i).1
 |.cG c a b=>vO (cc KO CO c).2 (kU a) (kU b)
 |.while c b=>rb (cc KO CO c).2 (kU b)
 |.for t e b=>vG KO (Ae KO CO t) (cc KO CO e).1 (kU b)
 |.ret e=>vo (cc KO CO e).1
 |.raise=>ry
theorem kU:∀M:List St,DJ κ G C d M
 |[]=>ua
 |m::M=>rq (HO m) (kU M)
end
end
section
variable {Uy:Shared} {A:Around} {h:Heap}
theorem EV(f:Gg v H p H')(R:bg κ H ad s)(e:aJ κ H ad s.heap v x):aJ κ H' ad s.heap p x/\bg κ H' ad s/\Step dD ad H s.heap ad H' s.heap:=by
 cases f with
 |refl=>exact⟨e,R,Step.refl⟩
 |dZ o=>exact⟨aJ.rz R o e,R.drop _,Step.drop⟩
 |fst o B=>obtain⟨a,ys,n,rfl,i,g,z,X,b,E,F,c,d,j,k,l⟩:=e;exact⟨⟨a,ys,n,rfl,(dq|>.r2 _ _ g (hV rfl) i).1,g,z,X,b,E,aJ.rz R o F,c,d,j,k.aL dq,l⟩,R.drop _,Step.drop⟩
 |@IN r xs q ys h o Q m=>obtain⟨a,Z,n,rfl,i,g,z,X,b,E,F,c,d,j,k,l⟩:=e;exact⟨⟨a,Z,n,rfl,(dq (r:=q)|>.r2 _ _ g (hV rfl) ((dq (r:=r)|>.r2 _ _ g (hV rfl) i).1)).1,g,z,X,b,E,(aJ.rz R o F).aL dq,c,d,j,aJ.rz (R.drop r) ((if_neg (Qs m)).trans Q:(H.drop r).o q=U (.list ys)) (k.aL dq),l⟩,(R.drop r).drop _,Step.drop.trans Step.drop (R.drop r).au⟩
theorem Step.frame(k:∀b o,h.get? b=U o->Uh.get? b=U o)(l:∀r,(H.o r).isSome=true->∃o,h.get? (ad.f r)=U o)(S:Step X ad H Uh ad' H' h')(d:∀b,X b->h.get? b=none):Step dD ad H h ad' H' h' where
 keep:=λb o e N _=>S.keep b o (k b o e) N λx=>by replace e:=(d b x)▸e;exact al e
 ext:=S.ext
 z:=S.z
 fresh:=λr R f=>(S.fresh r R f).imp id λq=>⟨q.1,by
  induction e:h.get? (ad'.f r) with
  |none=>rfl
  |some o=>have:=k _ _ e;replace this:=q.2▸this;exact al this⟩
 n:=S.n
 e4:=S.e4
 same:=λr R c i e=>by refine ay (S.same r R c i e) λa b=>?_;obtain⟨o,g⟩:=l r c;exact⟨a,Z b (Z g (k _ _ g))⟩
 bv:=λb o e=>S.bv b o (k b o e)
theorem qw{k:K3->Option Mp}{x:K3}:∀{l:List (K3×KV)} {m:K3->Option KV},x∉l.map (·.1)->TL k l m x=m x
 |[],m,_=>rfl
 |(n,v)::r,m,h=>by
  simp only[LC,KZ,not_or] at h;unfold TL;refine Z (qw h.2) ?_;split;·simp[h.1]
  ·rfl
theorem qF{k:K3->Option Mp}{x:K3}:∀{l:List (K3×KV)} {m:K3->Option KV},x∉l.map (·.1)->SR k l m x=m x
 |[],m,_=>rfl
 |(n,v)::r,m,h=>by
  simp only[LC,KZ,not_or] at h;unfold SR;refine Z (qF h.2) ?_;split;·rfl
  ·simp[h.1]
theorem r8{k:K3->Option Mp}{x:K3}{v:KV}(H:k x=U .local):∀{l:List (K3×KV)} {m:K3->Option KV},(l.map (·.1)).Nodup->(x,v)∈l->TL k l m x=U v
 |[],m,_,h=>nomatch h
 |(n,w)::r,m,N,h=>by
  simp only[LC,Ll] at N;unfold TL;refine K4 (KZ.mp h) (λe=>?_) λh=>r8 H N.2 h
  ·obtain⟨rfl,rfl⟩:=LQ e
   refine Z (qw N.1) (Z (if_pos H) ?_);simp
theorem tx{k:K3->Option Mp}{x:K3}{v:KV}(H:k x≠U .local):∀{l:List (K3×KV)} {m:K3->Option KV},(l.map (·.1)).Nodup->(x,v)∈l->SR k l m x=U v
 |[],m,_,h=>nomatch h
 |(n,w)::r,m,N,h=>by
  simp only[LC,Ll] at N;unfold SR;refine K4 (KZ.mp h) (λe=>?_) λh=>tx H N.2 h
  ·obtain⟨rfl,rfl⟩:=LQ e
   refine Z (qF N.1) (Z (if_neg H) ?_);simp
theorem g2:∀{l:List (K3×Mp)} {n:Nat} {acc:List (K3×Ln)},(acc.lookup x).isSome=true->((Rh n l acc).lookup x).isSome=true
 |[],n,acc,h=>h
 |(y,k)::r,n,acc,h=>by
  unfold Rh;split
  ·refine g2 ?_
   simp only[L5];split;·rfl
   ·exact h
  ·exact g2 h
theorem eE{x:K3}:∀{l:List (K3×Mp)} {n:Nat} {acc:List (K3×Ln)},(x,P3)∈l->((Rh n l acc).lookup x).isSome=true
 |(y,k)::r,n,acc,h=>by
  unfold Rh;refine K4 (KZ.mp h) (λe=>?_) λh=>?_
  ·obtain⟨rfl,rfl⟩:=LQ e
   refine Z (if_pos ((rfl:(P3==P3)=true))) (g2 ?_);simp[L5]
  ·split
   ·exact eE h
   ·exact eE h
structure zQ(κ:ds)(fa:Ln)(F:Fn)(o:Lg)(f:Oi)(b:List LW)(nm:Nm)(gl:Gl)(ps:List K3):Prop where
 ho:κ.base.get? fa=U o
 hd:o.data=.func f
 hb:f.body=.stmts (St.cP nm F.body b)
 ph:f.closure=[]
 kind:f.scope.kind=.function
 co:f.scope.isCoroutine=false
 gen:f.scope.isGenerator=false
 v8:f.globals=Ms
 blt:f.builtins=Pa
 code:κ.base.CodeRec f.code f.qualname
 GB:∀xs:List KV,xs.length=F.params->R1 f ⟨xs,[]⟩=pure (ps.zip xs)
 JX:ps.length=F.params
 JU:ps.Nodup
 Kv:St.hN nm gl F.body b=true
 J1:∀(i:Nat) x,ps[i]? =U x->nm.lookup x=U i
 Jp:∀x i,nm.lookup x=U i->f.scope.names.lookup x=U .local\/f.scope.names.lookup x=U .cell
 inj:∀x y i,nm.lookup x=U i->nm.lookup y=U i->x=y
 c4:∀x,gl.contains x=true->f.scope.names.lookup x=U .globalImplicit
 gH:gl.gH=κ.gH
 ck:∀x,gl.cells.contains x=true->f.scope.names.lookup x≠U .local
theorem yS{fa:Ln}(F:zQ κ fa N o f B nm gl ps){vs:List V}(p:vs.length=N.params)(R:bg κ H ad s)(q:aF κ H ad s.heap vs xs)(u:κ.base.objs.size<=s.heap.objs.size)
  (x:InCallC s (N8 f s.heap.objs.size a).locals (TL (N8 f s.heap.objs.size a).kindOf (ps.zip xs) λ_=>KT) (N8 f s.heap.objs.size a).cells (SR (N8 f s.heap.objs.size a).kindOf (ps.zip xs) λ_=>KT) Uy):
  h4 κ nm gl (N8 f s.heap.objs.size a) (vs.map U++NV (N.slots-N.params) KT) H ad Uy.heap:=by
 have C:fJ ad H s.heap ad H Uy.heap:=(bg.cT (X:=dD) (s':=Uy) R x.toInCall.keep).aL R.au;have M:(ps.zip xs).map (·.1)=ps:=by rw[List.map_fst_zip];rw[F.JX,(by simp only[<-q.length,p]:xs.length=N.params)];exact K9 _
 have r2:∀c,s.heap.objs.size<=c->jx H ad c:=λc h=>⟨wQ R h,f' R (aW _ h)⟩;have arg:∀y i v,nm.lookup y=U i->((vs.map U++NV (N.slots-N.params) KT)[i]?).join=U v->∃b,(y,b)∈ps.zip xs/\aJ κ H ad s.heap v b:=λy i v d I=>by
  by_cases c:i<vs.length
  ·rw[Mo (by simpa using c)] at I
   simp only[ML] at I;have e:vs[i]? =U vs[i]:=L8 c;replace I:=e▸I;simp only[Oa,Option.join_some,OZ] at I;refine aD (q.get e) λb w r=>?_;have D:i<ps.length:=Z F.JX (hR p c);have ep:ps[i]? =U ps[i]:=L8 D;have:=F.inj y _ i d (F.J1 i _ ep);refine⟨b,Z this (Nt (i:=i) ?_),hR I r⟩;rw[Qu];exact⟨ep,w⟩
  ·rw[Lx (by simpa using c)] at I
   simp only[QF] at I;split at I<;>simp at I
 have L:∀y c,(N8 f s.heap.objs.size a).cells.lookup y=U c->s.heap.objs.size<=c/\c≠(N8 f s.heap.objs.size a).locals:=λy c h=>by have:=x.above y c (cz h);exact⟨LJ this,N0 this⟩
 refine⟨⟨F.kind,F.v8,F.blt,⟨_,x.toInCall.ns⟩,u,r2 _ (K9 _),λy i d=>?_,F.c4,F.gH,F.ck⟩,F.Jp,λy c h=>ay (L y c h) λl G=>⟨r2 c l,⟨_,x.cell y c h⟩,G,ef R (aW _ l)⟩,λy z c d hz=>?_,F.inj⟩
 ·rcases F.Jp y i d with k |k
  ·refine .inl ⟨k,λv g=>aD (arg y i v d g) λb m r=>?_⟩
   exact⟨_,b,x.toInCall.ns,r8 k (Z M F.JU) m,r.aL C⟩
  ·refine cY (LY.mp (eE (n:=s.heap.objs.size+1) (acc:=[]) (cz k))) λc h=>.inr ⟨.inl k,c,h,r2 c (L y c h).1,⟨_,x.cell y c h⟩,λv g=>?_⟩
   exact aD (arg y i v d g) λb m r=>⟨b,hR (tx (by refine(?_ :f.scope.names.lookup y≠_);refine Z k ?_;exact λe=>nomatch e) (by refine Z M ?_;exact F.JU) m:SR (N8 f s.heap.objs.size a).kindOf (ps.zip xs) (λ_=>KT) y=U b) (x.cell y c h),r.aL C⟩
 ·have j:=cz d
  have h2:=cz hz;have A:=x.apart;generalize (N8 f s.heap.objs.size a).cells=cs at j h2 A;clear d hz;induction A with
  |nil=>cases j
  |cons hd _ J=>
   refine K4 (KZ.mp j) (λE=>?_) λj=>?_ <;>rcases KZ.mp h2 with t |h2
   ·replace E:=(t).symm▸E;exact(LQ E).1
   ·exact absurd (hR E rfl) (hd _ h2)
   ·exact absurd (hR t rfl) (hd _ j)
   ·exact J j h2
end
section
variable {A:Around}
theorem GL(K:fG κ G)(CO:hg κ C d){fa:Ln}{D:Oi}(F:zQ κ fa n o D B nm gl ps)(w:GR G C n vs Q H)
  (m:wP (d+1) A)(I:aF κ H ad s.heap vs xs)(R:bg κ H ad s):
  O' (Lh κ.prog κ.w) A (.call (.ref fa) ⟨xs,[]⟩) (λr s'=>match r with |.ok (.ret v)=>a' κ dD ad H s.heap Q v s' |.ok _=>False |.error e=>E e s') s:=by
 refine ay w λJ w=>?_;have M:κ.base.objs.size<=s.heap.objs.size:=by exact eB K.top λb o e l=>KQ l (Lv (R.base _ _ e))
 have N:xs.length=n.params:=hR I.length (Z J rfl);have u:A.depth<TB:=by have:=m.depth;have:TB=1000:=rfl;lia
 have j:s.heap.CodeRec D.code D.qualname:=by exact pk F.code λc T W t e g r=>⟨c,T,W,t,e,R.base _ _ g,r⟩
 refine codeAny_call_cells u (R.base _ _ F.ho) F.hd (K.nolimit.keeps R.base) j F.hb (F.GB xs N) F.ph (λx X=>?_) (λa x=>?_) F.co F.gen F.kind
 ·obtain⟨i,hi⟩:=List.mem_iff_getElem?.mp ((Sb X).1:x.1∈ps)
  exact K4 (F.Jp _ i (F.J1 i _ hi)) (λk=>.inl k) λk=>.inr ⟨k,eE (cz k)⟩
 ·have P:=x.toInCall.keep
  have L:a.gens=s.gens/\a.os=s.os:=by exact g1 x.toInCall.same λh t e=>Z e ⟨rfl,rfl⟩
  have room:ci d (A.deeper (N8 D s.heap.objs.size fa)):=by
   refine⟨m.handled,?_,?_⟩
   ·refine(?_ :A.depth+1+3*d+3<=900)
    have:=m.depth;exact bM (gF _ _) 0x13312833113700384513113121138337003845 rfl this
   ·refine(?_ :A.units+3+100*d+100<=9900)
    have:=m.units;exact bM (gF _ _) 0x16441286441337026ac51313c41211386447026ac5 rfl this
  refine Lc (kU K CO n.body B nm gl F.Kv _ _ _ _ _ H ad a room (yS F J R I M x) (R.keeps P L.1 L.2:bg κ H ad a) w) (λf s' p=>?_) λ_ _ y=>y;obtain⟨ad',H',aa,fl,q,fr,V',z,S⟩:=p;have X:∀b,FX (N8 D s.heap.objs.size fa) b->s.heap.get? b=KT:=λb hb=>by
   rcases hb with rfl |⟨y,hc⟩
   ·exact aW _ (K9 _)
   ·exact aW _ (LJ (x.above y b (cz hc)))
  have S':=Step.frame P (λr u=>R.c0 ⟨r,u,rfl⟩) S X;induction fl with
  |next=>subst fr;exact⟨ad',H',_,q,rfl,z,S'⟩
  |ret v=>obtain⟨y,rfl,ry⟩:=fr;obtain⟨v',Uw,fz,q⟩:=q;exact cH (EV fz z ry) λr1 r2 r3=>⟨ad',Uw,v',q,r1,r2,S'.trans r3 z.au⟩
theorem r7(k:fG κ G){T:String->Option Fn}(t:∀f N,T f=U N->∃fa o d b nm gl ps,κ.fn f=U fa/\zQ κ fa N o d b nm gl ps):∀n,hg κ (a5 G T n) n
 |0=>λf vs Q H h=>h.elim
 |n+1=>λf vs Q H h=>by obtain⟨N,c,h⟩:=aQ h;obtain⟨fa,o,d,b,nm,gl,ps,a,F⟩:=t f N c;exact⟨fa,a,λxs ad s A E e r R=>GL k (r7 k t n) F h e r R⟩
end
noncomputable def CC(n:List String):Nm:=(n.map KR).zipIdx
noncomputable def iZ(p:Td):Bool:=p.posonlyargs.isEmpty&&p.kwonlyargs.isEmpty&&p.vararg.isNone&&p.kwarg.isNone
noncomputable def Hm:TS->List KV
 |.fields vs=>vs.toList
 |_=>[]
noncomputable def rL(q:K3):KV->Bool
 |.str s _=>s==q
 |_=>false
noncomputable def uI(i:Int):KV->Bool
 |.int j _=>decide (j=i)
 |_=>false
noncomputable def D3:KV->Option Ln
 |.ref c=>U c
 |_=>KT
noncomputable def AC{a:Type}:List a->Option a
 |[]=>KT
 |_::r=>r.head?
noncomputable def w3(K:Pb)(C:KV)(q:K3):Bool:=(D3 C).any λc=>(K.lookup c).any λo=>(AC (Hm o.data)).any (rL q)
noncomputable def rP:KV->Bool
 |.none=>true
 |_=>false
noncomputable def DH:TS->Option Oi
 |.func f=>U f
 |_=>KT
noncomputable def DB(K:Pb)(fa:Ln):Option Oi:=(K.lookup fa).bind λo=>DH o.data
noncomputable def G4:FuncBody->Option (List LW)
 |.stmts b=>U b
 |_=>KT
noncomputable def Bp(K:Pb)(fa:Ln):Option (List LW):=(DB K fa).bind λf=>G4 f.body
noncomputable def Gn(K:Pb)(F:List String)(N:Fn)(n:List String)(i:List LW)(f:Oi):Bool:=
 f.closure.isEmpty&&(f.scope.kind==.function&&(!f.scope.isCoroutine&&(!f.scope.isGenerator&&(decide (f.globals=Ms)&&(decide (f.builtins=Pa)&&
   (w3 K f.code f.qualname&&(iZ f.params&&(rP f.defaults&&(decide (f.params.args.map (·.arg)=(n.take N.params).map KR)&&(decide (N.params<=n.length)&&
   (decide ((n.map KR).Nodup)&&(decide ((f.scope.names.map (·.1)).Nodup)&&((n.all λx=>f.scope.names.lookup (KR x)==U .local||f.scope.names.lookup (KR x)==U .cell)&&
   St.hN (CC n) (lb F f.scope) N.body i)))))))))))))
noncomputable def Dt(K:Pb)(f:List String)(fa:Ln)(F:Fn)(n:List String)(i:List LW):Bool:=(DB K fa).any (Gn K f F n i)
theorem iB{b:Type}{o:Option b}{f:b->Bool}(h:o.any f=true):BV o λa=>f a=true:=by
 induction o with
 |none=>exact aK h
 |some a=>exact⟨a,rfl,h⟩
theorem Ch{d:TS}{f:Oi}(h:DH d=U f):d=.func f:=by induction d with
 |func x=>exact congrArg Data.func (KP h)
 |_=>exact al h
theorem Fg{d:FuncBody}{b:List LW}(h:G4 d=U b):d=.stmts b:=by induction d with
 |stmts x=>exact congrArg FuncBody.stmts (KP h)
 |_=>exact al h
theorem Fc{a:Ln}(h:D3 v=U a):v=.ref a:=by induction v with
 |ref x=>exact congrArg MG (KP h)
 |_=>exact al h
theorem rl(h:rL q v=true):∃t,v=.str q t:=by
 induction v with
 |str s t=>exact⟨t,Z (beq_iff_eq.mp h) rfl⟩
 |_=>exact aK h
theorem vZ(h:uI i v=true):∃t,v=.int i t:=by
 induction v with
 |int s t=>exact⟨t,Z (of_decide_eq_true h) rfl⟩
 |_=>exact aK h
theorem yx{c:Type}{l:List c}{x:c}(h:AC l=U x):l[1]? =U x:=by
 induction l using LP with
 |nil=>exact al h
 |cons a l=>induction l using LP with
  |nil=>exact al h
  |cons b l=>exact h
theorem y1{K:Pb}{H:Heap}{C:KV}(k:K.In H)(h:w3 K C q=true):H.CodeRec C q:=by
 obtain⟨c,a,h⟩:=iB h;obtain⟨o,b,h⟩:=iB h;obtain⟨v,V,h⟩:=iB h;obtain⟨t,rfl⟩:=rl h;have:=yx V;induction hd:o.data with
 |fields vs=>replace this:=hd▸this;exact⟨c,o,vs,t,Fc a,k _ _ b,hd,QM.symm.trans this⟩
 |_=>replace this:=hd▸this;exact al this
theorem sM{a b:Type}{f g:a->Option b}:∀{l:List a},(∀x∈l,f x=g x)->l.filterMap f=l.filterMap g
 |[],_=>rfl
 |x::r,h=>by simp only[Lu,Lu,h x KX,sM λy H=>h y (K1 _ H)]
theorem AD{a b:Type}(l:List a)(k:Nat):l.zip (List.drop k ([]:List b))=[]:=Z List.drop_nil List.zip_nil_right
theorem zz{f:Oi}{as:List Arg}{K:List (Option K0)}{d:List K0}{xs:List KV}(H:xs.length=(as.map (·.arg)).length)
  (eP:∀n∈(as.map (·.arg)),(((as.map (·.arg)).zip xs).lookup n).isNone=false)(F:(as.map (·.arg)).filterMap (λn=>(((as.map (·.arg)).zip xs).lookup n).map (n,·))=(as.map (·.arg)).zip xs):
  R1 {f with params:=⟨[],as,KT,[],K,KT,d⟩,defaults:=.none} ⟨xs,[]⟩=pure ((as.map (·.arg)).zip xs):=by
 refine Rp (if_neg ?_) (Rp (if_neg ?_) ?_);·exact λh=>absurd (of_decide_eq_true (bu h).1:xs.length>(as.map (·.arg)).length) (λh=>Ni _ (H▸h))
 ·exact λh=>L9 ((congrArg (λl:List K3=>!l.isEmpty) ((λk=>List.filter_eq_nil_iff.mpr λn N h=>L9 ((eP n (Q6 N)).symm.trans h):∀k,((as.map (·.arg)).take k).filter (λn=>(((as.map (·.arg)).zip xs).lookup n).isNone)=[]) _)).symm.trans h)
 ·refine Z (AD _ _) ?_
  exact congrArg (pure:List (K3×KV)->S7 _) ((congrArg (NW _) (Lk _)).trans F)
theorem BQ(h:rP v=true):v=.none:=by cases v<;>first |rfl |exact aK h
theorem Fu{a1 a2 a3 a A b c}(e:a1=[])(E:a=[])(d:a3=KT)(f:b=KT):Arguments.mk a1 a2 a3 a A b c=⟨[],a2,KT,[],A,KT,c⟩:=by subst e d E f;rfl
theorem Cq:∀{p:Td},iZ p=true->p=⟨[],p.args,KT,[],p.kw_defaults,KT,p.defaults⟩
 |.mk ..,h=>Fu (OE.mp (bu (bu (bu h).1).1).1) (OE.mp (bu (bu (bu h).1).1).2) (Nw.mp (bu (bu h).1).2) (Nw.mp (bu h).2)
theorem FA{f:Oi}{p:Td}{d:KV}(e:f.params=p)(E:f.defaults=d):f={f with params:=p,defaults:=d}:=by subst e E;rfl
set_option tactic.hygienic true in
theorem At{f:Oi}{ps:List K3}(P:iZ f.params=true)(hd:rP f.defaults=true)(a:f.params.args.map (·.arg)=ps)(N:ps.Nodup){xs:List KV}(h:xs.length=ps.length):
  R1 f ⟨xs,[]⟩=pure (ps.zip xs):=by
 have eP:∀(ps:List K3) (xs:List KV),xs.length=ps.length->∀n∈ps,((ps.zip xs).lookup n).isNone=false:=by
  intro ps xs h n H
  induction ps generalizing xs with
  |nil=>cases H
  |cons p r i=>
   cases xs with
   |nil=>cases h
   |cons x l=>
    simp only[Rk,L5]
    split
    ·rfl
    ·rename_i e
     rcases KZ.mp H with rfl |H
     ·simp at e
     ·exact i l (by simpa using h) H
 have F:∀(ps:List K3) (xs:List KV),xs.length=ps.length->ps.Nodup->ps.filterMap (λn=>((ps.zip xs).lookup n).map (n,·))=ps.zip xs:=by
  intro ps xs h N
  induction ps generalizing xs with
  |nil=>rfl
  |cons p r i=>
   cases xs with
   |nil=>cases h
   |cons x l=>
    simp only[Ll] at N
    simp only[Rk,Lu,L5,beq_self_eq_true,Oa]
    congr 1
    refine(sM λn H=>?_).trans (i l (by simpa using h:l.length=r.length) N.2)
    have:(n==p)=false:=by
     simp only[beq_eq_false_iff_ne];rintro rfl;exact N.1 H
    exact Z this rfl
 refine(congrArg (R1 · _) (FA (Cq P) (BQ hd))).trans ?_
 subst a
 exact zz h (eP _ _ h) (F _ _ h N)
theorem uc{ps:List K3}(n:ps.Nodup):∀(k i:Nat) (x:K3),ps[i]? =U x->(ps.zipIdx k).lookup x=U (k+i):=by
 induction ps with
 |nil=>intro k i x h;simp at h
 |cons p r I=>
  intro k i x h;simp only[Ll] at n;simp only[OD,L5];cases i with
  |zero=>simp at h;subst h;simp
  |succ i=>
   simp only[OF] at h;have:(x==p)=false:=by simp only[beq_eq_false_iff_ne];rintro rfl;exact n.1 (Nt h)
   refine Z this ?_;simp only;refine Z (I n.2 (k+1) i x h) ?_;congr 1;exact Md (bM (gF _ _) 0x181137111387 rfl) (bM (gF _ _) 0x111387181137 rfl)
set_option tactic.hygienic true in
theorem j0{ps:List K3}:∀(k i:Nat) (x:K3),(ps.zipIdx k).lookup x=U i->k<=i/\ps[i-k]? =U x:=by
 induction ps with
 |nil=>intro k i x h;simp at h
 |cons p r I=>
  intro k i x h
  simp only[OD,L5] at h
  split at h
  ·rename_i e
   (replace h:=KP h;subst h)
   simp only[beq_iff_eq] at e;subst e
   simp
  ·exact ay (I (k+1) i x h) λl e=>⟨LJ ‹_›,Z (by lia:i-k=(i-(k+1))+1) (Z (OF) e)⟩
theorem q0{c d:Type}[BEq c][LawfulBEq c]:∀{l:List (c×d)},(l.map (·.1)).Nodup->∀{x:c} {y:d},(x,y)∈l->l.lookup x=U y
 |(a,b)::r,n,x,y,h=>by
  simp only[LC,Ll] at n;simp only[L5];refine K4 (KZ.mp h) (λe=>?_) λh=>?_;·obtain⟨rfl,rfl⟩:=LQ e;simp
  ·have:(x==a)=false:=by refine iR beq_eq_false_iff_ne ?_;intro e;exact n.1 (LG.mpr ⟨(x,y),h,e⟩)
   exact Z this (q0 n.2 h)
theorem yt{f:List String}{fa:Ln}{F:Fn}(K:κ.K.In κ.base)(s:κ.gH=f)(h:Dt κ.K f fa F n a=true)(B:Bp κ.K fa=U (St.cP (CC n) F.body a)):
  ∃o D b nm gl ps,zQ κ fa F o D b nm gl ps:=by
 obtain⟨D,d,h⟩:=iB h;obtain⟨t,e,B⟩:=bG B;replace e:=d▸e
 (replace e:=KP e;subst e)
 obtain⟨o,u,hd⟩:=bG d;refine EB h λv w z A G J M Q R j k c C l m=>?_;replace c:=of_decide_eq_true c;replace C:=of_decide_eq_true C;have L:((n.take F.params).map KR).length=F.params:=by(refine Z (KS _) (Z MH ?_));exact OT (of_decide_eq_true k)
 have N:((n.take F.params).map KR).Nodup:=by exact Z NJ (c.sublist (List.take_sublist _ _))
 refine⟨o,D,a,CC n,lb f D.scope,(n.take F.params).map KR,K _ _ u,Ch hd,Fg B,OE.mp v,beq_iff_eq.mp w,so z,so A,of_decide_eq_true G,of_decide_eq_true J,y1 K M,λxs H=>At Q R (of_decide_eq_true j) N (Z L H),L,N,m,λi x I=>?_,λx i I=>?_,λx y i H r=>?_,λx H=>?_,Z s rfl,λx H=>?_⟩
 ·have S:(n.map KR)[i]? =U x:=by
   replace I:=(Rm)▸NJ▸I;split at I;·exact I
   ·exact al I
  have:=uc c 0 i x S;rw[ND] at this;exact this
 ·refine ay (j0 0 i x I) λ_ e=>aD (LG.mp (Nt e)) λy r E=>?_;clear e I;subst E
  exact(Bool.or_eq_true_iff.mp (L6.mp l y r)).imp beq_iff_eq.mp beq_iff_eq.mp
 ·have g:=(j0 0 i x H).2
  replace g:=((j0 0 i y r).2)▸g;(replace g:=KP g;clear H;subst g);rfl
 ·obtain⟨p,P,rfl⟩:=LG.mp (Mb.mp H)
  obtain⟨P,q⟩:=MM.mp P;exact Z (q0 C (x:=p.1) (y:=p.2) P) (Z (beq_iff_eq.mp q) rfl)
 ·obtain⟨p,P,rfl⟩:=LG.mp (Mb.mp H)
  obtain⟨P,q⟩:=MM.mp P;refine Z (q0 C (x:=p.1) (y:=p.2) P) ?_;intro e;replace q:=(KP e)▸q;exact aK q
noncomputable def kR(C f:String):Option (List Char):=if(C++".").toList.isPrefixOf f.toList then U (f.toList.drop (C++".").toList.length) else KT
theorem s1(C m:String):kR C (C++"."++m)=U m.toList:=by unfold kR;exact Z (by simp:(C++"."++m).toList=(C++".").toList++m.toList) (Z (if_pos (by simp)) (Z List.drop_left rfl))
structure Tb where
 cls:List (String×Ln)
 fn:List (String×Ln)
 gH:List String
 ops:Ln
 x4:Bool
noncomputable def Es(K:Pb)(c:Ln):Bool:=plainGet K c ""&&hasDictIn K c&&plainOver K c&&Qo K (.ref c) "__setattr__"==U (U (.builtin "object.__setattr__"))
noncomputable def m':List String->List KV->Bool
 |[],vs=>vs.isEmpty
 |x::l,vs=>(match vs with |[]=>false |v::r=>rL (KR x) v&&m' l r)
noncomputable def rG:Lg->List KV
 |⟨_,KT,.seq vs _,⟨[]⟩⟩=>vs.toList
 |_=>[]
noncomputable def tp(K:Pb)(a:Ln)(l:List String):Bool:=(K.lookup a).any λo=>(o.cls==.type "tuple")&&m' l (rG o)
noncomputable def AG(K:Pb)(t:Tb)(p:String×Ln):Bool:=
 Es K p.2&&(Sv K (.ref p.2)&&(makesIn K p.2&&(nsIn K Ms (KR p.1)==U (U (.ref p.2))&&
  ((gj.all λf=>Qo K (.ref p.2) (KR f)==U KT&&takerIn K p.2 (KR f)==U KT)&&
  ((t.fn.all λq=>(kR p.1 q.1).all λm=>Qo K (.ref p.2) (KR (RV m))==U (U (.ref q.2))&&isFn K (.ref q.2))&&
  (t.fn.lookup (p.1++".__init__")).isSome)))))
noncomputable def Ik(K:Pb)(x:K3)(f:KV->Bool):Bool:=(nsIn K Ms x).join.any f
noncomputable def nE(K:Pb)(t:Tb)(bt:List (String×Fn×List String)):Bool:=
 t.cls.all (AG K t)&&
 ((t.gH.all λf=>(t.fn.lookup f).any λfa=>nsIn K Ms (KR f)==U (U (.ref fa)))&&
 ((t.fn.all λq=>Sv K (.ref q.2))&&
 ((kB.all λC=>(t.cls.lookup C).isSome)&&
 ((K.lookup NX).isSome&&
 ((["len","list","tuple","sorted","range","min","max","int","isinstance","dict","zip"].all λx=>nsIn K Ms (KR x)==U KT)&&
 (nsIn K Ms "VALUE_OPS"==U (U (.ref t.ops))&&(tp K t.ops ["num","bvnum","true","false"]&&
 (Ik K "BY_ARGUMENTS" (rL (KR "arguments"))&&(Ik K "BOOL" (uI 0)&&(!t.x4||Ik K "INT" (uI 1)))))))))))
noncomputable def C6:V:=.aA [.str "num",.str "bvnum",.str "true",.str "false"]
noncomputable def G0(t:Tb)(x:String):Option V:=
 if x.toList.contains '.' then(if(t.fn.lookup x).isSome then U .none else KT) else
 if x="VALUE_OPS" then U C6 else if x="BY_ARGUMENTS" then U (.str "arguments") else if x="BOOL" then U (.int 0)
 else if x="INT"/\t.x4=true then U (.int 1) else KT
noncomputable def jL(t:Tb)(prog:Mi)(w:MW)(K:Pb)(h:Heap)(s:Le)(m M:K3->Option KV):ds:=
 ⟨prog,w,K,λC=>t.cls.lookup C,h,s.gens,s.os,λf=>t.fn.lookup f,m,M,t.gH⟩
theorem IM(h:Heap)(e:∃b o,h.get? b=U o):∃h':Heap,(∀b,h'.get? b=h.get? b)/\∃b o,h'.get? b=U o/\h'.objs.size<=b+1:=by
 have key:∀n:Nat,(∃(b:Nat) (o:Lg),b<n/\h.get? b=U o)->∃(b:Nat) (o:Lg),h.get? b=U o/\∀c:Nat,c<n->b<c->h.get? c=KT:=by
  intro n;induction n with
  |zero=>intro ⟨b,o,l,_⟩;cases l
  |succ n i=>
   intro ⟨b,o,l,e⟩;induction q:h.get? n with
   |some a=>exact⟨n,a,q,λc H d=>by omega⟩
   |none=>
    have:b≠n:=by rintro rfl;replace q:=e▸q;exact al q.symm
    refine eB (i ⟨b,o,by lia,e⟩) λB a E f=>⟨B,a,E,λc H d=>?_⟩;by_cases C:c=n;·exact Z C q
    ·exact f c (by lia) d
 refine g1 e λb o e=>eB (key h.objs.size ⟨b,o,Lv e,e⟩) λb o e f=>?_;have g:∀c:Nat,(⟨h.objs.extract 0 (b+1),h.life⟩:Heap).get? c=h.get? c:=by
  intro c;by_cases C:c<b+1
  ·unfold RL
   have:(h.objs.extract 0 (b+1))[c]? =h.objs[c]? :=by refine Z (Array.getElem?_extract) ?_;have j:(b:Nat)<h.objs.size:=Lv e;exact Z (ND _) (Z (Nat.sub_zero _) (Z (if_pos (by lia)) rfl))
   exact Z this rfl
  ·have H:(⟨h.objs.extract 0 (b+1),h.life⟩:Heap).get? c=KT:=by
    unfold RL;have:(h.objs.extract 0 (b+1))[c]? =KT:=by rw[Ol];simp;omega
    exact Z this rfl
   refine Z H ?_;induction q:h.get? c with
   |none=>rfl
   |some a=>replace q:=(f c (Lv q) (bM (gF _ _) 0x113781311378 rfl (R' C)))▸q;exact al q
 refine⟨_,g,b,o,(g b).trans e,((Z Array.size_extract ?_):(h.objs.extract 0 (b+1)).size<=b+1)⟩;lia
theorem u3{K:Pb}{m:K3->Option KV}(k:K.In h)(M:h.Ns Ms m){f:KV->Bool}(c:Ik K x f=true):∃v,m x=U v/\f v=true:=by
 obtain⟨v,H,q⟩:=iB c;induction e:nsIn K Ms x with
 |none=>replace H:=e▸H;exact al H
 |some o=>replace H:=e▸H;cases (H:o=U v);exact⟨v,mg_of k M e,q⟩
theorem jN{ad:Ad}:∀{l:List String} {vs:List KV},m' l vs=true->aF κ H ad h (l.map V.str) vs
 |[],vs,c=>by induction vs using LP with
  |nil=>rfl
  |cons _ _=>exact aK c
 |x::l,vs,c=>by
  induction vs using LP with
  |nil=>exact aK c
  |cons v r=>exact ay (bu c) λC a=>⟨v,r,rfl,rl C,jN a⟩
theorem Dg{o:Lg}{l:List String}{x:String}(H:o.cls=.type "tuple")(h:m' (x::l) (rG o)=true):∃vs n,o={cls:=.type "tuple",data:=.seq vs n}/\m' (x::l) vs.toList=true:=by
 obtain⟨c,d,D,⟨k⟩⟩:=o;induction d with
 |some=>exact aK h
 |none=>
  induction D with
  |seq vs n=>
   induction k using LP with
   |nil=>subst H;exact⟨_,_,rfl,h⟩
   |cons=>exact aK h
  |_=>exact aK h
theorem D9{t:Tb}{K:Pb}{h:Heap}(k:κ.base=h)(a:K.In h)(c:tp K t.ops ["num","bvnum","true","false"]=true){ad:Ad}{s':Le}(R:bg κ H ad s'):aJ κ H ad s'.heap C6 (.ref t.ops):=by
 subst k;obtain⟨o,d,c⟩:=iB c;obtain⟨C,c⟩:=bu c;refine eB (Dg (beq_iff_eq.mp C) c) λvs n E c=>?_;clear C c;clear c;subst E;have b:=a _ _ d;refine⟨t.ops,vs,n,rfl,⟨λ⟨r,f,e⟩=>?_,λz=>?_⟩,R.base _ _ b,?_,jN c⟩
 ·have:=R.new r f
  rw[e,b] at this;exact al this.symm
 ·have:=R.zb _ z
  rw[b] at this;exact al this.symm
 ·have:vs.size=4:=(jN (κ:=κ) (H:=H) (ad:=ad) (h:=s'.heap) c).length.symm
  refine Z this ?_;decide
theorem zX{v:V}(hx:j1.contains x=true)(e:G0 t x=U v):(x="VALUE_OPS"/\v=C6)\/(x="BY_ARGUMENTS"/\v=.str "arguments")\/(x="BOOL"/\v=.int 0)\/(x="INT"/\v=.int 1/\t.x4=true):=by
 rcases KZ.mp (Mb.mp hx) with rfl |hx
 ·exact .inl ⟨rfl,(KP (e:U C6=U v)).symm⟩
 rcases KZ.mp hx with rfl |hx
 ·exact .inr (.inl ⟨rfl,(KP (show U (V.str "arguments")=U v from e)).symm⟩)
 rcases KZ.mp hx with rfl |hx
 ·exact .inr (.inr (.inl ⟨rfl,(KP (e:U (V.int 0)=U v)).symm⟩))
 rcases KZ.mp hx with rfl |hx
 ·induction i:t.x4 with
  |true=>have:G0 t "INT"=U (.int 1):=(show G0 t "INT"=if "INT"="INT"/\t.x4=true then U (.int 1) else KT from rfl).trans (if_pos ⟨rfl,i⟩);exact .inr (.inr (.inr ⟨rfl,(KP (this.symm.trans e)).symm,rfl⟩))
  |false=>have:G0 t "INT"=KT:=(show G0 t "INT"=if "INT"="INT"/\t.x4=true then U (.int 1) else KT from rfl).trans (if_neg λq=>by replace q:=i▸q;exact aK q.2);exact al (this.symm.trans e)
 ·exact(nomatch hx)
set_option tactic.hygienic true in
theorem KC{bt:List (String×Fn×List String)}{prog:Mi}{w:MW}{K:Pb}{s:Le}{G B:K3->Option KV}
  (c:nE K t bt=true)(k:K.In h)(M:h.Ns Ms G)(y:h.Ns Pa B)(N:h.NoLimit)(p:∃b o,h.get? b=U o/\h.objs.size<=b+1)
  (T:∀x:K3,x≠"__name__"->B x=bootBuiltins x):fG (jL t prog w K h s G B) (G0 t):=by
 refine Ac c λz D I J L n P Q S r j=>?_
 have n:=L6.mp n
 have l:∀C a,t.cls.lookup C=U a->AG K t (C,a)=true:=λC a e=>L6.mp z (C,a) (cz e)
 have E:∀C a m fa,t.cls.lookup C=U a->t.fn.lookup (C++"."++m)=U fa->Qo K (.ref a) (KR m)=U (U (.ref fa))/\isFn K (.ref fa)=true:=λC a m fa e F=>by
  have:=L6.mp (bu (bu (bu (bu (bu (bu (l C a e)).2).2).2).2).2).1 _ (cz F)
  simp only[s1] at this
  obtain⟨a,b⟩:=bu this
  rw[String.ofList_toList] at a
  exact⟨beq_iff_eq.mp a,b⟩
 refine⟨k,p,M,y,N,λC a e=>?_,λC a f e F=>?_,E,λf F=>?_,λf fa e=>L6.mp I _ (cz e),λC W=>?_,λC a e=>?_,λC a fa e F=>?_,?_,λb=>?_,⟨mg_none_of k M (beq_iff_eq.mp (n "zip" (by decide))),(T _ (by decide+kernel)).trans (by kernel_rfl)⟩,λC m v e=>?_,λx v X e=>?_⟩
 ·obtain⟨b,d⟩:=bu (bu (l C a e)).1
  obtain⟨b,f⟩:=bu b
  obtain⟨b,g⟩:=bu b
  exact⟨b,g,f,beq_iff_eq.mp d⟩
 ·obtain⟨a,b⟩:=bu (L6.mp (bu (bu (bu (bu (bu (l C a e)).2).2).2).2).1 f (Mb.mp F))
  exact⟨beq_iff_eq.mp a,beq_iff_eq.mp b⟩
 ·obtain⟨fa,A,q⟩:=iB (L6.mp D f (Mb.mp F))
  exact⟨fa,A,mg_of k M (beq_iff_eq.mp q)⟩
 ·obtain⟨a,u⟩:=LY.mp (L6.mp J C (Mb.mp W))
  obtain⟨fa,A⟩:=LY.mp (bu (bu (bu (bu (bu (bu (l C a u)).2).2).2).2).2).2
  exact⟨a,fa,u,A⟩
 ·obtain⟨d,q⟩:=bu (bu (l C a e)).2
  obtain⟨f,q⟩:=bu q
  exact⟨mg_of k M (beq_iff_eq.mp (bu q).1),d,f⟩
 ·have q:C++".__init__"=C++"."++"__init__":=by refine Z String.append_assoc ?_;rfl
  obtain⟨a,b⟩:=E C a "__init__" fa e (hR q F)
  exact⟨a,beq_iff_eq.mp b⟩
 ·obtain⟨o,ho⟩:=LY.mp L
  refine((Z (k _ _ ho) ?_):(h.get? NX).isSome=true);rfl
 ·refine⟨mg_none_of k M (beq_iff_eq.mp (n b.name (by induction b<;>decide))),(T _ (by induction b<;>decide+kernel)).trans (by induction b<;>kernel_rfl)⟩
 ·unfold G0 at e
  rw[if_pos (by simp)] at e
  split at e
  ·rename_i hq
   exact LY.mp hq
  ·exact al e
 ·rcases zX X e with⟨rfl,rfl⟩ |⟨rfl,rfl⟩ |⟨rfl,rfl⟩ |⟨rfl,rfl,i⟩
  ·exact⟨_,mg_of k M (beq_iff_eq.mp P),λH ad s' R=>D9 rfl k Q R⟩
  ·exact aD (u3 k M S) λv V q=>⟨v,V,λ_ _ _ _=>rl q⟩
  ·exact aD (u3 k M r) λv V q=>⟨v,V,λ_ _ _ _=>vZ q⟩
  ·rw[i] at j
   exact aD (u3 k M j) λv V q=>⟨v,V,λ_ _ _ _=>vZ q⟩
noncomputable def Hp.jH:Hp:=⟨λ_=>none,λ_=>0,0⟩
noncomputable def Ga(bt:List (String×Fn×List String))(f:String):Option Fn:=(bt.find? λp=>p.1==f).map (·.2.1)
noncomputable def qV(K:Pb)(t:Tb)(i:String->List LW)(bt:List (String×Fn×List String)):Bool:=bt.all λp=>(t.fn.lookup p.1).any λfa=>Dt K t.gH fa p.2.1 p.2.2 (i p.1)
noncomputable def q5(K:Pb)(t:Tb)(bt:List (String×Fn×List String)):List (Option (List LW)):=bt.map λp=>(t.fn.lookup p.1).bind (Bp K)
noncomputable def v2(i:String->List LW)(bt:List (String×Fn×List String)):List (Option (List LW)):=bt.map λp=>U (St.cP (CC p.2.2) p.2.1.body (i p.1))
theorem q7{P:Params}{h:Heap}{vs:List KV}{N:List Int}(l:h.IsList a vs.toArray)(w:Well P h (.ref a) (ofPy (QH (N.map OB)))):
  h.get? a=U {cls:=.type "list",data:=.seq vs.toArray}:=by
 refine gw l λo H c r=>cY r λn hd=>?_;generalize X:ofPy (QH (N.map OB))=x at w;cases w with
 |list e _=>
  rw[H] at e
  (replace e:=KP e;subst e)
  clear r c;cases hd;exact H
 |_=>simp[ofPy] at X
theorem vm{ad:Ad}:∀{vs:List KV} {N:List Int},Qf vs N->aF κ H ad h (ae N) vs:=by
 intro vs N i;induction i with
 |nil=>rfl
 |cons n t r I=>exact⟨_,_,rfl,⟨t,rfl⟩,I⟩
theorem z1:∀{vs:List KV} {N:List Int},Qf vs N->vs.length=N.length:=by
 intro vs N i;induction i with
 |nil=>rfl
 |cons n t r I=>exact congrArg (·+1) I
theorem Cy{i:String->List LW}{bt:List (String×Fn×List String)}{prog:Mi}{w:MW}{K:Pb}{s:Le}{m M:K3->Option KV}{fa a:Ln}{vs:List KV}{d:List Int}
  (c:nE K t bt=true)(f:qV K t i bt=true)(I:q5 K t bt=v2 i bt)(J:K.In s.heap)(hm:s.heap.Ns Ms m)(hb:s.heap.Ns Pa M)(hn:s.heap.NoLimit)
  (T:∀x:K3,x≠"__name__"->M x=bootBuiltins x)(g:m (KR "law")=U (.ref fa))(W:t.gH.contains "law"=true)
  (L:s.heap.get? a=U {cls:=.type "list",data:=.seq vs.toArray})(Q:Qf vs d)(j:d.length<=63)
  (l:∃n,n<=60/\a5 (G0 t) (Ga bt) n "law" [.fl (ae d)] (λv _=>v=.bool true) Hp.jH):
  O' (Lh prog w) callerA (.call (.ref fa) ⟨[.ref a],[]⟩) (λr s'=>r=.ok (.ret (.bool true))/\(∀b o,s.heap.get? b=U o->s'.heap.get? b=U o)/\s'.os=s.os/\s'.gens=s.gens) s:=by
 refine aD (IM s.heap ⟨_,_,L⟩) λh' V P=>?_;have k:∀b o,s.heap.get? b=U o->h'.get? b=U o:=λb o e=>(V b).trans e;have X:fG (jL t prog w K h' s m M) (G0 t):=KC c (J.keeps k) (hm.keeps k) (hb.keeps k) (hn.keeps k) P T;have hT:∀u y,Ga bt u=U y->∃fa o D B nm gl ps,(jL t prog w K h' s m M).fn u=U fa/\zQ (jL t prog w K h' s m M) fa y o D B nm gl ps:=λu y e=>by unfold Ga at e;refine aD (OC.mp e) λp C E=>?_;clear e;subst E;have Z:=List.find?_some C;rw[beq_iff_eq] at Z;obtain⟨A,h,h2⟩:=iB (L6.mp f p (Qt C));have h3:=List.map_inj_left.mp I p (Qt C);rw[h] at h3;exact IC (yt (κ:=jL t prog w K h' s m M) (J.keeps k) rfl h2 h3) λo D B nm gl ps F=>⟨A,o,D,B,nm,gl,ps,hR Z h,F⟩
 refine aD l λn N l=>aD (r7 X hT n _ _ _ _ l) λA h CO=>?_;have e1:A=fa:=by refine aD (X.JV "law" W) λI H hg=>?_;replace H:=h▸H;(replace H:=KP H;subst H);have:m (KR "law")=U (.ref A):=hg;replace this:=g▸this;clear hg CO h;cases this;rfl
 clear g;subst e1;have R:bg (jL t prog w K h' s m M) Hp.jH ⟨λ_=>0,λ_=>False⟩ s:=
  ⟨λb o e=>(V b).symm.trans e,rfl,rfl,λr e=>(nomatch e),λr q e=>(nomatch e),λr e=>(nomatch e),λr o e=>(nomatch e),λa z=>z.elim,λa z=>z.elim,λa z=>z.elim⟩;have rx:aF (jL t prog w K h' s m M) Hp.jH ⟨λ_=>0,λ_=>False⟩ s.heap [.fl (ae d)] [.ref a]:=by
  refine⟨_,_,rfl,⟨a,vs.toArray,_,rfl,⟨λ⟨r,hr,_⟩=>(nomatch hr),λz=>z⟩,L,?_,vm Q⟩,rfl⟩;have:vs.toArray.size<=63:=by simp[(z1 Q:vs.length=d.length),j]
  exact KQ this (by decide)
 refine Ou (CO [.ref a] _ s callerA (λ_ _=>False) ⟨rfl,?_,((bM (kS _) 0x13c412764443026ac564473c4 rfl N):4+100*n+60<=9900)⟩ rx R) ?_
 ·refine(?_ :1+claimMargin+3*n+1<=900)
  have:claimMargin<=600:=by decide
  exact bM (gF _ _) 0x1131283317130038453383c4137002585 rfl N this
 ·intro r s' p
  induction r with
  |error=>exact p.elim
  |ok r=>
  induction r with
  |ret v=>obtain⟨ad',H',v',hv,rv,G,S⟩:=p;subst hv;obtain rfl:v=.bool true:=rv;exact⟨rfl,λb o e=>G.base b o (k b o e),G.os,G.gens⟩
  |_=>exact p.elim
end ai
namespace ai.L1
open PySem PyProof.Rows
noncomputable def vF:Tb:=⟨[("Congruence",352),("Bank",569)],[("Congruence.__init__",65),("Congruence.are_equal",86),("Congruence.cause_apart",100),("Congruence.classes",114),("Congruence.conflict",121),("Congruence.inner",128),("Congruence.add_term",133),("Congruence.enter",138),("Congruence.signature",143),("Congruence.look_up",150),("Congruence.merge",157),("Congruence.close",164),("Congruence.join",171),("Congruence.note_clash",178),("Congruence.lengths",185),("Congruence.take_off",192),("Congruence.torn",199),("Congruence.with_reason",206),("Congruence.hang",213),("Congruence.turn",220),("Congruence.edges_between",227),("Congruence.explain",234),("Congruence.separate",241),("Congruence.parted_by",248),("Congruence.explain_cause",262),("Congruence.joined",267),("Congruence.watch",274),("Congruence.place_watch",281),("Congruence.tell_class",288),("Congruence.tell",295),("Congruence.implied",302),("Congruence.explain_told",309),("Congruence.push_level",316),("Congruence.pop_levels",321),("Congruence.undo",328),("Congruence.leave",335),("Congruence.part",342),("Congruence.unwatch",349),("Bank.__init__",370),("Bank.declare_fun",412),("Bank.fresh_const",426),("Bank.op",461),("Bank.args",468),("Bank.sort",475),("Bank.data",482),("Bank.make",503),("Bank.true_term",538),("_law_next",580),("_law_terms",585),("_law_closed",590),("_law_is_apart",595),("_law_standing",602),("_law_clashes",607),("_law_is_good",612),("_law_noted",619),("_law_asked",626),("_law_taken_back",633),("_law_done",640),("_law_watched",647),("law",652)],["_law_next","_law_terms","_law_closed","_law_is_apart","_law_standing","_law_clashes","_law_is_good","_law_noted","_law_asked","_law_taken_back","_law_done","_law_watched","law"],51,true⟩
end ai.L1
namespace ai
open PySem PySem.W PyProof.Rows PySem.SeqAt
inductive BT where
 |leaf
 |kd (o:Lg) (l r:BT)
noncomputable def xb{a:Type}(b:Bool)(x y:a):a:=Bool.rec (motive:=λ_=>a) y x b
noncomputable def Hb{c a:Type}(b:Option c)(x:a)(y:c->a):a:=Option.rec (motive:=λ_=>a) x y b
noncomputable def BT.get(t:BT):Nat->Option Lg:=
 BT.rec (motive:=λ_=>Nat->Option Lg) (λ_=>none)
  (λo _ _ g G i=>QT (motive:=λ_=>Option Lg) (U o) (λj _=>xb (Ly (j %2) 0) (g (j/2)) (G (j/2))) i) t
noncomputable def BT.r6(t:BT):Nat->Lg->BT:=
 BT.rec (motive:=λ_=>Nat->Lg->BT) (λ_ o=>.kd o .leaf .leaf)
  (λa l r I R i o=>QT (motive:=λ_=>BT) (.kd o l r) (λj _=>xb (Ly (j %2) 0) (.kd a (I (j/2) o) r) (.kd a l (R (j/2) o))) i) t
theorem BT.zt(k:Nat):BT.leaf.get k=none:=rfl
theorem BT.Hf(o:Lg)(l r:BT):(BT.kd o l r).get 0=U o:=rfl
theorem BT.fd(o:Lg)(l r:BT){j:Nat}(h:j %2=0):(BT.kd o l r).get (j+1)=l.get (j/2):=by refine(?_ :xb (Ly (j %2) 0) _ _=_);rw[h];rfl
theorem BT.g0(o:Lg)(l r:BT){j:Nat}(h:j %2=1):(BT.kd o l r).get (j+1)=r.get (j/2):=by refine(?_ :xb (Ly (j %2) 0) _ _=_);rw[h];rfl
theorem BT.zv(a:Lg)(l r:BT)(o:Lg){j:Nat}(h:j %2=0):(BT.kd a l r).r6 (j+1) o=.kd a (l.r6 (j/2) o) r:=by refine(?_ :xb (Ly (j %2) 0) _ _=_);rw[h];rfl
theorem BT.B9(a:Lg)(l r:BT)(o:Lg){j:Nat}(h:j %2=1):(BT.kd a l r).r6 (j+1) o=.kd a l (r.r6 (j/2) o):=by refine(?_ :xb (Ly (j %2) 0) _ _=_);rw[h];rfl
theorem BT.mN:∀(t:BT) (i:Nat) (o:Lg),(∀k,k<i->(t.get k).isSome=true)->∀k,(t.r6 i o).get k=if k=i then U o else t.get k
 |.leaf,i,o,h,k=>by
  have:i=0:=by
   induction i using MT with
   |zero=>rfl
   |succ i=>exact PR (h 0 (M4 _))
  subst this;induction k using MT with
  |zero=>rfl
  |succ k=>rw[if_neg (R8 _)];exact K4 (MY k) (λe=>BT.fd _ _ _ e) λe=>BT.g0 _ _ _ e
 |.kd a l r,0,o,h,k=>by
  induction k using MT with
  |zero=>rfl
  |succ k=>
   rw[if_neg (R8 _)];show(BT.kd o l r).get (k+1)=_;refine K4 (MY k) (λe=>?_) λe=>?_;·rw[BT.fd _ _ _ e,BT.fd _ _ _ e]
   ·rw[BT.g0 _ _ _ e,BT.g0 _ _ _ e]
 |.kd a l r,j+1,o,h,k=>by
  refine K4 (MY j) (λe=>?_) λe=>?_
  ·rw[BT.zv _ _ _ _ e]
   have I:=BT.mN l (j/2) o λk H=>by have:=h (2*k+1) (by omega);rw[BT.fd _ _ _ (by omega),(by omega:2*k/2=k)] at this;exact this
   induction k using MT with
   |zero=>rfl
   |succ m=>
    refine K4 (MY m) (λE=>?_) λE=>?_
    ·rw[BT.fd _ _ _ E,BT.fd _ _ _ E,I]
     by_cases q:m=j;·rw[if_pos (by omega),if_pos (by omega)]
     ·rw[if_neg (by omega),if_neg (by omega)]
    ·rw[BT.g0 _ _ _ E,BT.g0 _ _ _ E,if_neg (by omega)]
  ·rw[BT.B9 _ _ _ _ e]
   have I:=BT.mN r (j/2) o λk H=>by have:=h (2*k+2) (by omega);rw[BT.g0 _ _ _ (by omega),(by omega:(2*k+1)/2=k)] at this;exact this
   induction k using MT with
   |zero=>rfl
   |succ m=>
    refine K4 (MY m) (λE=>?_) λE=>?_;·rw[BT.fd _ _ _ E,BT.fd _ _ _ E,if_neg (by omega)]
    ·rw[BT.g0 _ _ _ E,BT.g0 _ _ _ E,I]
     by_cases q:m=j;·rw[if_pos (by omega),if_pos (by omega)]
     ·rw[if_neg (by omega),if_neg (by omega)]
noncomputable def BT.mf(t:BT)(n:Nat):List Lg->List Lg:=
 QT (motive:=λ_=>List Lg->List Lg) (λacc=>acc) (λk i acc=>Hb (t.get k) (i acc) (λo=>i (o::acc))) n
theorem BT.wS{t:BT}{l:List Lg}:∀(n:Nat) (acc:List Lg),(∀k,k<n->t.get k=l[k]?)->n<=l.length->t.mf n acc=l.take n++acc
 |0,acc,_,_=>rfl
 |n+1,acc,h,H=>by have e:=h n (L7 _);rw[L8 (by exact ai.bM (ai.gF _ _) 0x113781311378 rfl H)] at e;refine(?_ :Hb (t.get n) _ _=_);rw[e];show t.mf n (l[n]::acc)=_;rw[BT.wS n _ (λk K=>h k (by exact ai.bM (ai.gF _ _) 0x113711381311378 rfl K)) (by exact LJ ‹_›),PG (by assumption),Lj];rfl
noncomputable def BT.of(l:List Lg):BT->Nat->BT:=
 T8 (motive:=λ_=>BT->Nat->BT) (λt _=>t) (λo _ i t n=>i (t.r6 n o) (Pd n)) l
structure gA(T:BT)(n:Nat)(xs:Array Lg):Prop where
 size:xs.size=n
 get:∀k,T.get k=xs[k]?
theorem gA.push{T:BT}{n:Nat}(F:gA T n xs)(o:Lg):gA (T.r6 n o) (Pd n) (xs.push o):=by refine⟨by rw[P0,F.size],λk=>?_⟩;rw[BT.mN _ _ _ (λk h=>by rw[F.get,MB (by rw[F.size];exact h)];rfl),F.get,Array.getElem?_push,F.size]
theorem gA.modify{T:BT}{n:Nat}(F:gA T n xs){a:Nat}{o:Lg}(h:T.get a=U o)(f:Lg->Lg):gA (T.r6 a (f o)) n (xs.modify a f):=by
 refine⟨by rw[Array.size_modify,F.size],λk=>?_⟩;have H:a<xs.size:=by rw[F.get] at h;exact(Qi.mp h).1
 rw[BT.mN _ _ _ (λk K=>by rw[F.get,MB (by exact ai.bM (ai.io _ _ _) 0x1137813113981311379 rfl H K)];rfl),F.get,Array.getElem?_modify];by_cases q:k=a
 ·clear H;subst q
  rw[if_pos rfl,if_pos rfl,<-F.get,h];rfl
 ·rw[if_neg q,if_neg (λe=>q e.symm)]
theorem gA.rD:∀(l:List Lg) (T:BT) (n:Nat) (xs:Array Lg),gA T n xs->gA (BT.of l T n) (n+l.length) (xs++l.toArray)
 |[],T,n,xs,F=>by dsimp only[NL,Nat.add_zero,Array.append_empty];exact F
 |o::r,T,n,xs,F=>by rw[show n+(o::r).length=Pd n+r.length by simp;exact Md (ai.bM (ai.gF _ _) 0x111387181137 rfl) (ai.bM (ai.gF _ _) 0x181137111387 rfl),show xs++(o::r).toArray=xs.push o++r.toArray by simp];exact(gA.rD r _ _ _ (F.push o))
theorem gA.jH:gA .leaf 0 #[]:=⟨rfl,λk=>by simp only[BT.zt];rfl⟩
theorem gA.mf{T:BT}{n:Nat}(F:gA T n xs):(⟨T.mf n []⟩:Array Lg)=xs:=by
 have:T.mf n []=xs.toList:=by rw[BT.wS (l:=xs.toList) n [] (λk _=>by rw[F.get];simp) (by simp[F.size]),Lk,NU (by simp[F.size])]
 rw[this]
noncomputable def BT.eP(t:BT)(a:Nat):Option Lg:=match t.get a with
 |some ⟨_,_,.freed,_⟩=>none
 |o=>o
theorem gA.eP{T:BT}{n:Nat}{h:Heap}(F:gA T n h.objs)(a:Nat):h.get? a=T.eP a:=by
 unfold RL BT.eP;rw[F.get];induction h.objs[a]?with
 |none=>rfl
 |some o=>
  induction o with
  |mk c d x s=>induction x<;>rfl
theorem zl{T:BT}{o:Lg}(e:T.eP a=U o):T.get a=U o:=by
 induction h:T.get a with
 |none=>unfold BT.eP at e;replace e:=h▸e;cases e
 |some q=>
  unfold BT.eP at e;replace e:=h▸e;induction q with
  |mk c d x s=>clear h;induction x<;>first |exact e |cases e
noncomputable def wJ{c b:Type}(g:c->(c->b)->b)(l:List c):(List c->b)->b:=
 T8 (motive:=λ_=>(List c->b)->b) (λk=>k []) (λa _ i k=>g a λA=>i λr=>k (A::r)) l
theorem kN{b c:Type}{g:b->(b->c)->c}(h:∀a k,g a k=k a):∀(l:List b) (k:List b->c),wJ g l k=k l
 |[],_=>rfl
 |a::r,k=>(h a _).trans (kN h r _)
noncomputable def C7{a:Type}(n:Nat)(k:Nat->a):a:=QT (motive:=λ_=>a) (k 0) (λm _=>k (Pd m)) n
theorem C9{a:Type}(n:Nat)(k:Nat->a):C7 n k=k n:=by induction n<;>rfl
noncomputable def HT{d:Type}(e:MF)(k:MF->d):d:=DictEntry.rec (motive:=λ_=>d) (λa b c=>k ⟨a,b,c⟩) e
theorem BX{a:Type}(e:MF)(k:MF->a):HT e k=k e:=by induction e;rfl
noncomputable def Do{a:Type}(d:TS)(k:TS->a):a:=match d with
 |.dict es n=>wJ HT es.toList λl=>k (.dict ⟨l⟩ n)
 |.seq xs n=>wJ (λx k=>k x) xs.toList λl=>k (.seq ⟨l⟩ n)
 |.fields xs=>wJ (λx k=>k x) xs.toList λl=>k (.fields ⟨l⟩)
 |d=>k d
theorem zm{a:Type}(d:TS)(k:TS->a):Do d k=k d:=by
 induction d with
 |dict es n=>exact kN BX _ λl=>k (.dict ⟨l⟩ n)
 |seq xs n=>exact kN (λ_ _=>rfl) _ λl=>k (.seq ⟨l⟩ n)
 |fields xs=>exact kN (λ_ _=>rfl) _ λl=>k (.fields ⟨l⟩)
 |_=>rfl
noncomputable def xz{a:Type}(o:Lg)(k:Lg->a):a:=match o with
 |⟨c,d,x,s⟩=>Do x λX=>k ⟨c,d,X,s⟩
theorem wU{a:Type}(o:Lg)(k:Lg->a):xz o k=k o:=by obtain⟨c,d,x,s⟩:=o;exact zm x λX=>k ⟨c,d,X,s⟩
noncomputable abbrev s4:=Fast.tw8437177126325714943 (Fast.tw11892475500146522536 Qa)
theorem z8:step (TH N1)=s4:=by unfold s4;simp only[<-Fast.te8437177126325714943,<-Fast.te11892475500146522536,<-Qb]
def s2(h:Heap):S6->Prop
 |.go s' _=>s'.heap=h
 |.halt _ _=>True
theorem rF{c:Prop}[Decidable c](p:s2 h a)(q:s2 h b):s2 h (if c then a else b):=by split<;>assumption
noncomputable def sW:S7 Fin->Bool
 |.update .. |.alloc .. =>false
 |_=>true
set_option tactic.hygienic true in
theorem mX{d:Code->S7 Fin}{s:Le}{t:Qp}(h:sW t.cur=true):s2 s.heap (step d p w s t):=by
 obtain⟨C,code,pos,M6⟩:=t
 cases C
 all_goals try exact rfl
 all_goals try exact trivial
 case update=>exact PR h
 case alloc=>exact PR h
 all_goals try exact rF trivial trivial
 all_goals try exact rF trivial rfl
 case pure f=>
  cases f with
  |again c=>exact rfl
  |done f=>clear h;cases M6 with
   |nil=>exact rF trivial trivial
   |cons fr r=>cases fr<;>exact rfl
 case raise f=>
  cases M6 with
   |nil=>exact rF trivial trivial
   |cons fr r=>clear h;cases fr<;>exact rfl
 case load a x k=>
  conv=>arg 2;whnf
  cases s.heap.get? a<;>first |exact rfl |exact trivial
 case genState a x=>
  conv=>arg 2;whnf
  cases s.gens[a]? <;>first |exact rfl |exact trivial
 case resume g r l k=>
  conv=>arg 2;whnf
  cases s.gens[g]?with
  |none=>exact trivial
  |some st=>
   induction st
   all_goals try exact rfl
   induction r with
   |throw=>exact rfl
   |send v=>clear h;induction v<;>exact rfl
 case yield=>
  conv=>arg 2;whnf
  cases splitAtGen M6<;>first |exact rfl |exact trivial
noncomputable def run(p:Mi)(w:MW)(N:Nat)(A:Option KV)(l:Life)(n:Nat):BT->Nat->Array R4->Drawn->Nat->SU->Qp->Option Le:=
 QT (motive:=λ_=>BT->Nat->Array R4->Drawn->Nat->SU->Qp->Option Le) (λ_ _ _ _ _ _ _=>KT) (λ_ i T m g d tk os t=>match through t with
  |true=>U ⟨⟨⟨T.mf m []⟩,l⟩,g,d,tk,os⟩
  |false=>match stepOk N A t with
   |false=>KT
   |true=>match t with
    |⟨c,code,pos,M6⟩=>match c with
     |.load a _ k=>(match T.eP a with
      |some o=>i T m g d tk os ⟨k o,code,pos,M6⟩
      |none=>KT)
     |.update a _ f k=>(match T.eP a with
      |some o=>xz (f o) λb=>i (T.r6 a b) m g d tk os ⟨k (),code,pos,M6⟩
      |none=>KT)
     |.alloc o k=>xz o λb=>C7 m λM=>i (T.r6 M b) (Pd M) g d tk os ⟨k M,code,pos,M6⟩
     |c=>(match s4 p w ⟨⟨⟨T.mf m []⟩,l⟩,g,d,tk,os⟩ ⟨c,code,pos,M6⟩ with
      |.go ⟨_,g',D,K,s⟩ e=>i T m g' D K s e
      |.halt _ _=>KT)) n
theorem z3(p:Mi)(w:MW)(N:Nat)(A:Option KV)(l:Life)(n:Nat)(T:BT)(m:Nat)(g:Array R4)(d:Drawn)(tk:Nat)(os:SU)(c:S7 Fin)(code:Code)(pos:Qk)(M6:List Frame):
  run p w N A l (n+1) T m g d tk os ⟨c,code,pos,M6⟩=(match through (⟨c,code,pos,M6⟩:Qp) with
  |true=>U ⟨⟨⟨T.mf m []⟩,l⟩,g,d,tk,os⟩
  |false=>match stepOk N A (⟨c,code,pos,M6⟩:Qp) with
   |false=>KT
   |true=>match c with
     |.load a _ k=>(match T.eP a with
      |some o=>run p w N A l n T m g d tk os ⟨k o,code,pos,M6⟩
      |none=>KT)
     |.update a _ f k=>(match T.eP a with
      |some o=>xz (f o) λb=>run p w N A l n (T.r6 a b) m g d tk os ⟨k (),code,pos,M6⟩
      |none=>KT)
     |.alloc o k=>xz o λb=>C7 m λM=>run p w N A l n (T.r6 M b) (Pd M) g d tk os ⟨k M,code,pos,M6⟩
     |c=>(match s4 p w ⟨⟨⟨T.mf m []⟩,l⟩,g,d,tk,os⟩ ⟨c,code,pos,M6⟩ with
      |.go ⟨_,g',D,t,s⟩ e=>run p w N A l n T m g' D t s e
      |.halt _ _=>KT):Option Le):=rfl
theorem oA(p:Mi)(w:MW)(N:Nat)(A:Option KV):∀(n:Nat) (T:BT) (m:Nat) (s:Le) (t:Qp),gA T m s.heap.objs->
  Rt N1 p w N A n s t=run p w N A s.heap.life n T m s.gens s.drawn s.toks s.os t
 |0,_,_,_,_,_=>rfl
 |n+1,T,m,⟨⟨xs,l⟩,g,d,tk,os⟩,⟨c,code,pos,M6⟩,F=>by
  have G:sW c=true->(match step (TH N1) p w ⟨⟨xs,l⟩,g,d,tk,os⟩ ⟨c,code,pos,M6⟩ with
    |.go s' b=>Rt N1 p w N A n s' b
    |.halt _ _=>KT)=(match s4 p w ⟨⟨⟨T.mf m []⟩,l⟩,g,d,tk,os⟩ ⟨c,code,pos,M6⟩ with
      |.go ⟨_,g',D,K,S⟩ b=>run p w N A l n T m g' D K S b
      |.halt _ _=>KT):=by
   intro H;rw[F.mf,<-z8];induction e:step (TH N1) p w ⟨⟨xs,l⟩,g,d,tk,os⟩ ⟨c,code,pos,M6⟩ with
   |halt _ _=>rfl
   |go s' b=>obtain⟨h',g',D,K,S⟩:=s';have:s2 ⟨xs,l⟩ (step (TH N1) p w ⟨⟨xs,l⟩,g,d,tk,os⟩ ⟨c,code,pos,M6⟩):=mX H;replace this:=e▸this;cases ((this:h'=⟨xs,l⟩));exact oA p w N A n T m ⟨⟨xs,l⟩,g',D,K,S⟩ b F
  unfold Rt;refine Z (z3 p w N A l n T m g d tk os c code pos M6) ?_;induction through (⟨c,code,pos,M6⟩:Qp) with
  |true=>exact Z F.mf rfl
  |false=>
   induction stepOk N A (⟨c,code,pos,M6⟩:Qp) with
   |false=>rfl
   |true=>
    induction c with
    |load a x k=>
     refine(?_ :(match(match(⟨xs,l⟩:Heap).get? a with
      |some o=>Step.go ⟨⟨xs,l⟩,g,d,tk,os⟩ ⟨k o,code,pos,M6⟩
      |none=>Step.halt (.stuck (if a<xs.size then "load: the object has been freed" else "load: no object at this address")) ⟨⟨xs,l⟩,g,d,tk,os⟩) with
      |.go s' b=>Rt N1 p w N A n s' b
      |.halt _ _=>KT)=(match T.eP a with
      |some o=>run p w N A l n T m g d tk os ⟨k o,code,pos,M6⟩
      |none=>KT));rw[F.eP (h:=⟨xs,l⟩)];induction T.eP a with
     |none=>rfl
     |some o=>exact oA p w N A n T m ⟨⟨xs,l⟩,g,d,tk,os⟩ _ F
    |update a x f k=>
     refine(?_ :(match(if((⟨xs,l⟩:Heap).get? a).isSome=true then Step.go ⟨(⟨xs,l⟩:Heap).update a f,g,d,tk,os⟩ ⟨k (),code,pos,M6⟩
      else Step.halt (.stuck "update: no object at this address, or it has been freed") ⟨⟨xs,l⟩,g,d,tk,os⟩) with
      |.go s' b=>Rt N1 p w N A n s' b
      |.halt _ _=>KT)=(match T.eP a with
      |some o=>xz (f o) λi=>run p w N A l n (T.r6 a i) m g d tk os ⟨k (),code,pos,M6⟩
      |none=>KT));rw[F.eP (h:=⟨xs,l⟩)];induction e:T.eP a with
     |none=>rfl
     |some o=>exact(oA p w N A n _ m ⟨⟨xs.modify a f,l⟩,g,d,tk,os⟩ _ (F.modify (zl e) f)).trans (wU (f o) λi=>run p w N A l n (T.r6 a i) m g d tk os ⟨k (),code,pos,M6⟩).symm
    |alloc o k=>refine Rp (?_ :Rt N1 p w N A n ⟨⟨xs.push o,l⟩,g,d,tk,os⟩ ⟨k xs.size,code,pos,M6⟩=_) ((C9 m _).symm.trans (wU o λi=>C7 m λM=>run p w N A l n (T.r6 M i) (Pd M) g d tk os ⟨k M,code,pos,M6⟩).symm);rw[(F.size:xs.size=m)];exact oA p w N A n _ _ ⟨⟨xs.push o,l⟩,g,d,tk,os⟩ _ (F.push o)
    |_=>exact G rfl
noncomputable def tS(p:Mi)(w:MW)(N:Nat):Option Le:=
 ((Fast.tw10274390034422433532 Qa (opening p) w N (Qj (opening p)).1 (Qj (opening p)).2).bind (Fast.tw14289696077712309145 p)).bind λs=>
  match s.heap.isNs Ms&&s.gens.size==0 with
  |true=>(run p w s.heap.objs.size (s.heap.nsMap Ms "__annotations__") s.heap.life N (BT.of s.heap.objs.toList .leaf 0) s.heap.objs.size s.gens s.drawn s.toks s.os (topStub p)).bind λS=>match staticsOk (Tq p.main.body) s.heap S.heap&&namesBound p S.heap&&gensDone S&&laidKept s.heap S.heap with
    |true=>U S
    |false=>KT
  |false=>KT
theorem zT(p:Mi)(w:MW)(N:Nat):openEnds N1 p w N=tS p w N:=by
 delta openEnds fencedOpening topFrom tS;simp only[<-Fast.te10274390034422433532,<-Qb,<-Fast.te1435165496053646825,<-Fast.te14289696077712309145];congr 1;funext s;have F:gA (BT.of s.heap.objs.toList .leaf 0) s.heap.objs.size s.heap.objs:=by simpa using(gA.rD s.heap.objs.toList _ _ _ gA.jH)
 simp only[oA p w _ _ N _ _ s _ F];rfl
noncomputable def k1(as:List Ln)(h:Heap):Pb:=as.filterMap λa=>((BT.of h.objs.toList .leaf 0).eP a).map λo=>(a,o)
set_option tactic.hygienic true in
theorem xe(as:List Ln)(h:Heap):(k1 as h).In h:=by
 have F:gA (BT.of h.objs.toList .leaf 0) h.objs.size h.objs:=by
  have:=gA.rD h.objs.toList _ _ _ gA.jH
  simpa using this
 intro a o e
 have:∀l:List Ln,(l.filterMap λa=>((BT.of h.objs.toList .leaf 0).eP a).map λo=>(a,o)).lookup a=U o->h.get? a=U o:=by
  intro l
  induction l with
  |nil=>intro e;cases e
  |cons p r i=>
   intro e
   rw[Lu] at e
   cases q:(BT.of h.objs.toList .leaf 0).eP p with
   |none=>rw[q] at e;exact i e
   |some b=>
    rw[q] at e
    simp only[Oa,L5] at e
    split at e
    ·rename_i H
     rw[beq_iff_eq] at H
     rw[H,F.eP,q];exact e
    ·exact i e
 exact this as e
noncomputable def qc(x:K3):List LW->List LW
 |[]=>[]
 |s::r=>(match s with
  |.FunctionDef y _ b _ _ _ _ _ _ _=>if y==x then b else qc x r
  |.ClassDef y _ _ b _ _ _ _ _ _ _=>if y==x then b else qc x r
  |_=>qc x r)
noncomputable def FI(s:List LW)(n:String):List LW:=
 match kB.findSome? λc=>(kR c n).map λm=>(c,m) with
 |some p=>qc (KR (RV p.2)) (qc (KR p.1) s)
 |none=>qc (KR n) s
noncomputable def h6(as:List Ln)(t:Tb)(i:String->List LW)(bt:List (String×Fn×List String)):Hook where
 α:=Bool×List (Option (List LW))
 obs s:=(λK=>(nE K t bt&&qV K t i bt,q5 K t bt)) (k1 as s.heap)
 val _:=(true,v2 i bt)
 says _ h:=∃K:Pb,K.In h/\nE K t bt=true/\qV K t i bt=true/\q5 K t bt=v2 i bt
 of w s e:=⟨k1 as s.heap,xe _ _,(bu (LQ e).1).1,(bu (LQ e).1).2,(LQ e).2⟩
 keeps w h h':=λ⟨K,a,b⟩ k=>⟨K,a.keeps k,b⟩
end ai
namespace ai.L1
open PySem PySem.W PyProof.Rows PySem.SeqAt
noncomputable def BG:List Ln:=[Ms,352,569,351,568,NX,51]++vF.fn.map (·.2)++vF.fn.map (·.2-1)
noncomputable abbrev pw:=SB
noncomputable def rT:String->List LW:=FI pw.main.body
noncomputable def q:Mi:=view pw [24]
noncomputable def loose:List K3:=["_wall","SmtError","VALUE_OPS","BY_ARGUMENTS","Congruence","BOOL","INT","Bank","_law_next","_law_terms","_law_closed","_law_is_apart","_law_standing","_law_clashes","_law_is_good","_law_noted","_law_asked","_law_taken_back","_law_done","_law_watched"]
section
set_option maxHeartbeats 8000000
set_option maxRecDepth 100000
theorem dS:(defOf q (KR "law")).isSome=true:=by kernel_rfl
noncomputable def dk:DefRec×List (K3×K0):=(defOf q (KR "law")).get dS
theorem G6{a d e:Type}{o:Option a}{f:a->d}{b:d}{F i:a->Bool}{g:a->e}{c:e}(h:(o.map λs=>(f s,F s))=U (b,true))(H:o.map i=U true)(j:o.map g=U c):
  (o.map λs=>(f s,(F s&&i s,g s)))=U (b,true,c):=by
 cases o with
 |none=>cases h
 |some s=>obtain rfl:=KP j;have h:=LQ (KP h);exact congrArg U (h.1▸congrArg (λx=>(f s,x,g s)) ((congrArg (F s&&·) (KP H)).trans (congrArg (·&&true) h.2)))
theorem IU(w:MW):((tS pw w 7300).map λs=>(openSeen q loose (Tq pw.main.body) (λ_=>true) true s,nE (k1 BG s.heap) vF bt))=U (openGood q loose,true):=by kernel_rfl
theorem Jy(w:MW):((tS pw w 7300).map λs=>qV (k1 BG s.heap) vF rT bt)=U true:=by kernel_rfl
theorem IR(w:MW):((tS pw w 7300).map λs=>q5 (k1 BG s.heap) vF bt)=U (v2 rT bt):=by kernel_rfl
theorem left:LeftO pw q loose (λ_=>true) (h6 BG vF rT bt).obs (h6 BG vF rT bt).val 7300:=by intro w;rw[zT];exact G6 (IU w) (Jy w) (IR w)
noncomputable abbrev Gp:=MD
noncomputable abbrev pt:=Gp.row.prog
theorem Gv:(sreFenced pt.main&&((moduleNames pt.main.body).isEmpty||lookedIntoSs (moduleNames pt.main.body) pt.main.body))=true:=by kernel_rfl
theorem Hx:namesResolve pt=true:=by kernel_rfl
theorem GV:(["vars","dir","locals"]:List K3).filter (readsOut pt pt.main.body)=[]:=by kernel_rfl
theorem HK:(namesMeet pt pt.main.body λ_ n=>attrL n)=true:=by kernel_rfl
theorem eP:looksOpen pt=true:=by unfold looksOpen;rw[GV,HK,Hx,Gv];kernel_rfl
theorem Jf:Gp.wellSaid=true:=by unfold OpenLaw.wellSaid OpenRow.wellSaid OpenRow.partSaid;rw[eP];kernel_rfl
end
section
set_option backward.match.sparseCases true
set_option maxHeartbeats 8000000
set_option maxRecDepth 100000
set_option tactic.hygienic true in
theorem J6(HW:∀S:List Int,S.length<=63->∃n,n<=60/\a5 (G0 vF) (Ga bt) n "law" [.fl (ae S)] (λv _=>v=.bool true) Hp.jH):MD.Holds:=by
 refine holds_law Jf λD=>?_
 refine holds_open (q:=q) (loose:=loose) (Xt:=λ_=>true) (XP:=λ_ _=>True) (Yf:=(h6 BG vF rT bt).obs) (Ya:=(h6 BG vF rT bt).val) (YP:=(h6 BG vF rT bt).says) (d:=dk.1) (kwd:=dk.2) (N:=7300)
  left (h6 BG vF rT bt).of (h6 BG vF rT bt).keeps (λ_ _=>trivial) (λ_ _ _ _ _=>trivial) ?_ ?_ ?_ ?_ ?_ D ?_ ?_ ?_ ?_
 ·exact(Option.some_get dS).symm
 ·kernel_rfl
 ·kernel_rfl
 ·exact λs _=>recFacts_of (by rfl)
 ·kernel_rfl
 ·kernel_rfl
 ·exact⟨rfl,rfl,rfl,rfl,rfl,by kernel_rfl⟩
 ·exact⟨[.list []],by decide+kernel,by decide+kernel⟩
 ·intro w p t P Q G aa fa o R V C X Z ho hd u hD g x args vals as H y i l j
  have k:=(pre_splitW H).1
  have h:=(pre_splitW H).2
  wrow_hasAll k y
  wrow_readAll i l j
  rename_i S _ _ _ _ _ _ _ a vs _ z _ W _ I _
  have c:S.length<=63:=by
   by_cases q:63<S.length
   ·exfalso
    have:WTm.holds MD.row.records MD.row.pre {args:=[ofPy (QH (NK OB S))]}=false:=by
     have e:decide ((63:Int)<((ofPys (NK OB S)).length:Nat))=true:=by
      rw[ofPys_eq,KS,KS]
      exact decide_eq_true (by omega)
     show(match(match(match(U (decide ((63:Int)<((ofPys (NK OB S)).length:Nat)))).map P' with
      |some (.bool b)=>U (P' (!b))
      |_=>KT) with
      |some (.bool false)=>U (P' false)
      |some (.bool true)=>U (P' true)
      |_=>KT) with
      |some (.bool true)=>true
      |_=>false)=false
     rw[e]
     rfl
    rw[this] at h;cases h
   ·omega
  obtain⟨K,A,B,E,F⟩:=aa
  have T:=G.T
  have L:=q7 z W
  have nm:dk.1.name=KR "law":=by kernel_rfl
  rw[nm] at g
  refine enter_call (Ou (Cy (prog:=MD.row.prog) (w:=w) B E F A T.g T.b T.nolimit T.builtins g (by kernel_rfl) L I c (HW S c)) ?_)
  rintro r s' ⟨rfl,J,m,f⟩
  refine GoodW.toG ⟨.inl ⟨_,_,_,rfl,λ_=>rfl,.bool true,?_,λ_=>⟨Mw,λa M=>nomatch M⟩⟩,J,m,f.trans x⟩
  kernel_rfl
end
end ai.L1
namespace ai
theorem V.ref.inj{r q:cq}(e:V.ref r=.ref q):r=q:=by cases e;rfl
inductive AO where
 |list (xs:List V)
 |dI (u:List Int) (f:Int->Option V)
 |dP (u:List (List Int)) (f:List Int->Option V)
 |dS (es:List (String×V))
 |dN (es:List (bQ×V))
def AO.Is:AO->Obj->Prop
 |.list xs,x=>x=.list xs
 |.dS es,x=>x=.dS es
 |.dN es,x=>x=.dN es
 |.dI u f,x=>∃es,x=.dI es/\(es.map (·.1)).Nodup/\(∀i,(bc es i).isSome=true->i∈u)/\u.length<900/\∀i,bc es i=f i
 |.dP u f,x=>∃es,x=.dP es/\(es.map (·.1)).Nodup/\(∀i,(bc es i).isSome=true->i∈u)/\u.length<900/\∀i,bc es i=f i
structure AH where
 st:Nat->Int->Nat
 o:Nat->Int->Option AO
 vr:Nat->Int->Nat
 nn:Nat
end ai
namespace ai.AH
noncomputable def R(A:AH)(k:Nat)(t:Int):cq:=⟨k,t,A.st k t⟩
noncomputable def set(A:AH)(k:Nat)(t:Int)(a:AO):AH:=⟨A.st,λK T=>if K=k/\T=t then U a else A.o K T,λK T=>if K=k/\T=t then A.vr k t+1 else A.vr K T,A.nn⟩
noncomputable def new(A:AH)(k:Nat)(t:Int)(n:Nat)(a:AO):AH:=⟨λK T=>if K=k/\T=t then n else A.st K T,λK T=>if K=k/\T=t then U a else A.o K T,λK T=>if K=k/\T=t then 0 else A.vr K T,n+1⟩
end ai.AH
namespace ai
def AR(h:Hp)(A:AH):Prop:=(∀k t a,A.o k t=U a->(∃x,h.o (A.R k t)=U x/\a.Is x)/\h.e4 (A.R k t)=A.vr k t)/\h.n=A.nn
theorem Aq{A:AH}{k K:Nat}{t T:Int}(h:¬(K=k/\T=t)){n:Nat}:A.R K T≠⟨k,t,n⟩:=λe=>by have e:=(cq.mk.injEq ..).mp e;exact h ⟨e.1,e.2.1⟩
theorem Ar{c:Type}{k:Nat}{t:Int}(a b:c):(if k=k/\t=t then a else b)=a:=if_pos ⟨rfl,rfl⟩
theorem n3{A:AH}:(A.new k t n a).R k t=⟨k,t,n⟩:=by show cq.mk _ _ (if _ then _ else _)=_;exact Z (Ar _ _) rfl
theorem AR.set(R:AR h A){k:Nat}{t:Int}{x:Obj}{a b:AO}(H:A.o k t=U b)(i:a.Is x):AR (h.set (A.R k t) x) (A.set k t a):=Sd (λK T d e=>by
 by_cases c:K=k/\T=t
 ·obtain⟨rfl,rfl⟩:=c
  have e:(if K=K/\T=T then U a else A.o K T)=U d:=e;rw[Ar] at e
  (replace e:=KP e;subst e)
  refine⟨⟨x,if_pos rfl,i⟩,?_⟩;show(if _ then _ else _)=(if _ then _ else _);rw[Ar];exact(if_pos rfl).trans (congrArg (·+1) (R.1 _ _ _ H).2)
 ·have e:(if K=k/\T=t then U a else A.o K T)=U d:=e
  rw[if_neg c] at e;refine ay (R.1 _ _ _ e) λB E=>aD B λy f g=>⟨⟨y,(if_neg (Aq c)).trans f,g⟩,?_⟩;show(if _ then _ else _)=(if _ then _ else _);exact Z (if_neg c) ((if_neg (Aq c)).trans E)) R.2
theorem AR.new(R:AR h A)(k:Nat)(t:Int){x:Obj}{a:AO}(i:a.Is x):AR (h.new k t x) (A.new k t h.n a):=Sd (λK T d e=>by
 by_cases c:K=k/\T=t
 ·obtain⟨rfl,rfl⟩:=c
  have e:(if K=K/\T=T then U a else A.o K T)=U d:=e;rw[Ar] at e
  (replace e:=KP e;subst e)
  refine Z n3 ⟨⟨x,if_pos rfl,i⟩,?_⟩;show(if _ then _ else _)=(if _ then _ else _);rw[Ar];exact if_pos rfl
 ·have e:(if K=k/\T=t then U a else A.o K T)=U d:=e
  rw[if_neg c] at e;refine ay (R.1 _ _ _ e) λb E=>aD b λy f g=>?_;have:(A.new k t h.n a).R K T=A.R K T:=by show cq.mk _ _ (if _ then _ else _)=_;refine Z (if_neg c) ?_;rfl
  refine Z this ⟨⟨y,(if_neg (Aq c)).trans f,g⟩,?_⟩;show(if _ then _ else _)=(if _ then _ else _);exact Z (if_neg c) ((if_neg (Aq c)).trans E)) rfl
theorem AR.ip(R:AR h A){k:Nat}{t:Int}(e:A.o k t=U (.list xs)):h.o (A.R k t)=U (.list xs):=by exact ay (R.1 _ _ _ e) λb _=>aD b λx E a=>Z E (congrArg U a)
theorem AR.dS(R:AR h A){k:Nat}{t:Int}(e:A.o k t=U (.dS xs)):h.o (A.R k t)=U (.dS xs):=by exact ay (R.1 _ _ _ e) λb _=>aD b λx E a=>Z E (congrArg U a)
theorem AR.dN(R:AR h A){k:Nat}{t:Int}(e:A.o k t=U (.dN xs)):h.o (A.R k t)=U (.dN xs):=by exact ay (R.1 _ _ _ e) λb _=>aD b λx E a=>Z E (congrArg U a)
theorem AR.dI(R:AR h A){k:Nat}{t:Int}{u:List Int}{f:Int->Option V}(e:A.o k t=U (.dI u f)):
  ∃es,h.o (A.R k t)=U (.dI es)/\(es.map (·.1)).Nodup/\(∀i,(bc es i).isSome=true->i∈u)/\u.length<900/\∀i,bc es i=f i:=by
 refine ay (R.1 _ _ _ e) λb _=>aD b λx a r=>aD r λes E c=>?_;clear r;subst E;exact⟨es,a,c⟩
theorem AR.dP(R:AR h A){k:Nat}{t:Int}{u:List (List Int)}{f:List Int->Option V}(e:A.o k t=U (.dP u f)):
  ∃es,h.o (A.R k t)=U (.dP es)/\(es.map (·.1)).Nodup/\(∀i,(bc es i).isSome=true->i∈u)/\u.length<900/\∀i,bc es i=f i:=by
 refine ay (R.1 _ _ _ e) λb _=>aD b λx a r=>aD r λes E c=>?_;clear r;subst E;exact⟨es,a,c⟩
section
variable {K α:Type} [DecidableEq K]
noncomputable def ft(f:K->Option α)(k:K)(v:Option α):K->Option α:=λx=>if x=k then v else f x
theorem eL:∀(es:List (K×α)) (k:K) (v:α) (x:K),bc (bA es k v) x=if x=k then U v else bc es x
 |[],k,v,x=>by
  refine(?_ :(if k=x then U v else KT)=_);by_cases h:x=k;·subst h;(rw[if_pos rfl];exact Z (if_pos rfl) rfl)
  ·refine Z (if_neg h) (Z (if_neg (λe=>h e.symm)) ?_);rfl
 |(a,w)::r,k,v,x=>by
  refine(?_ :bc (if a=k then(a,v)::r else(a,w)::bA r k v) x=_);by_cases c:a=k
  ·subst c
   refine Z (if_pos rfl) (?_ :(if a=x then U v else bc r x)=if x=a then U v else if a=x then U w else bc r x);by_cases h:x=a;·exact Z (if_pos h) (Z (if_pos h.symm) rfl)
   ·exact Z (if_neg h) (Z (if_neg (λe=>h e.symm)) (Z (if_neg (λe=>h e.symm)) rfl))
  ·refine Z (if_neg c) ((Z (eL r k v x) ?_):(if a=x then U w else bc (bA r k v) x)=if x=k then U v else if a=x then U w else bc r x)
   by_cases h:a=x;·exact Z (if_pos h) (Z (if_pos h) (Z (if_neg (λe=>c (h.trans e))) rfl))
   ·exact Z (if_neg h) (Z (if_neg h) rfl)
theorem sD:∀(es:List (K×α)) (k:K) (v:α) (x:K),x∈(bA es k v).map (·.1)↔x=k\/x∈es.map (·.1)
 |[],k,v,x=>((iR KU ⟨.inl,λh=>h.elim id λh=>nomatch h⟩):x∈[k]↔x=k\/x∈[])
 |(a,w)::r,k,v,x=>by
  refine(?_ :x∈(if a=k then(a,v)::r else(a,w)::bA r k v).map (·.1)↔x=k\/x∈a::r.map (·.1));by_cases c:a=k
  ·subst c
   exact Z (if_pos rfl) (⟨.inr,λh=>h.elim (λe=>Z e KX) id⟩:x∈a::r.map (·.1)↔_)
  ·refine Z (if_neg c) (?_ :x∈a::(bA r k v).map (·.1)↔_)
   simp only[KZ,KZ,sD r k v x];exact⟨λh=>h.elim (λe=>.inr (.inl e)) λh=>h.elim .inl λh=>.inr (.inr h),λh=>h.elim (λe=>.inr (.inl e)) λh=>h.elim .inl λh=>.inr (.inr h)⟩
theorem kY:∀{es:List (K×α)} {k:K} {v:α},(es.map (·.1)).Nodup->((bA es k v).map (·.1)).Nodup
 |[],k,v,_=>Ll.mpr ⟨MU,Mw⟩
 |(a,w)::r,k,v,h=>by
  refine(?_ :((if a=k then(a,v)::r else(a,w)::bA r k v).map (·.1)).Nodup);have h:=Ll.mp h;by_cases c:a=k;·exact Z (if_pos c) (Ll.mpr h)
  ·exact Z (if_neg c) (Ll.mpr ⟨λm=>K4 ((sD r k v a).mp m) (λe=>c e) λe=>h.1 e,kY h.2⟩)
theorem hM:∀(es:List (K×α)) (k x:K),bc (gi es k) x=if x=k then KT else bc es x
 |[],k,x=>by refine(?_ :KT=if x=k then KT else KT);by_cases h:x=k<;>simp only[h,if_true,if_false]
 |(a,w)::r,k,x=>by
  refine(?_ :bc (if a=k then gi r k else(a,w)::gi r k) x=_);by_cases c:a=k
  ·subst c
   refine Z (if_pos rfl) (Z (hM r a x) (?_ :_=if x=a then KT else if a=x then U w else bc r x));by_cases h:x=a;·exact Z (if_pos h) (Z (if_pos h) rfl)
   ·exact Z (if_neg h) (Z (if_neg h) (Z (if_neg (λe=>h e.symm)) rfl))
  ·refine Z (if_neg c) ((Z (hM r k x) ?_):(if a=x then U w else bc (gi r k) x)=if x=k then KT else if a=x then U w else bc r x)
   by_cases h:a=x;·exact Z (if_pos h) (Z (if_pos h) (Z (if_neg (λe=>c (h.trans e))) rfl))
   ·exact Z (if_neg h) (Z (if_neg h) rfl)
theorem ob:∀{es:List (K×α)} {k x:K},x∈(gi es k).map (·.1)->x∈es.map (·.1)
 |[],_,_,h=>h
 |(a,w)::r,k,x,h=>by
  have h:x∈(if a=k then gi r k else(a,w)::gi r k).map (·.1):=h;by_cases c:a=k;·rw[if_pos c] at h;exact K1 _ (ob h)
  ·rw[if_neg c] at h
   exact K4 (KZ.mp h) (λe=>Z e KX) λe=>K1 _ (ob e)
theorem ja:∀{es:List (K×α)} {k:K},(es.map (·.1)).Nodup->((gi es k).map (·.1)).Nodup
 |[],_,h=>h
 |(a,w)::r,k,h=>by
  have h:=Ll.mp h;refine(?_ :((if a=k then gi r k else(a,w)::gi r k).map (·.1)).Nodup);by_cases c:a=k;·exact Z (if_pos c) (ja h.2)
  ·exact Z (if_neg c) (Ll.mpr ⟨λm=>h.1 (ob m),ja h.2⟩)
theorem fi:∀{es:List (K×α)} {x:K},(bc es x).isSome=true↔x∈es.map (·.1)
 |[],x=>⟨λh=>(nomatch h),λh=>(nomatch h)⟩
 |(a,w)::r,x=>by
  refine(?_ :(if a=x then U w else bc r x).isSome=true↔x∈a::r.map (·.1));by_cases c:a=x;·exact Z (if_pos c) ⟨λ_=>c▸KX,λ_=>rfl⟩
  ·(refine Z (if_neg c) ?_;rw[fi,KZ])
   exact⟨.inr,λh=>h.elim (λe=>(c e.symm).elim) id⟩
end
theorem hk{b:Type}[DecidableEq b]:∀{l u:List b},l.Nodup->(∀x∈l,x∈u)->l.length<=u.length
 |[],_,_,_=>Lf _
 |a::r,u,n,s=>by have n:=Ll.mp n;have h:=s a KX;have:=hk (u:=u.erase a) n.2 λx m=>(List.mem_erase_of_ne λe=>n.1 (by simp only[<-e];exact m)).mpr (s x (K1 _ m));simp only[List.length_erase_of_mem h] at this;have:0<u.length:=List.length_pos_of_mem h;simp only[LK];lia
theorem gm{K a:Type}[DecidableEq K]{es:List (K×a)}{u:List K}(n:(es.map (·.1)).Nodup)(s:∀i,(bc es i).isSome=true->i∈u):es.length<=u.length:=by have:=hk n λx m=>s x (fi.mpr m);rwa[KS] at this
variable {h:Hp} {A:AH}
section
variable {r:cq} {o:Obj} {x y:V}
theorem fQ(e:h.o r=U (.dS fs)):bC h r=U fs:=by refine((Z e ?_):(h.o r).bind Obj.bC=_);rfl
theorem rA(e:h.o r=U o):lu h (.ref r) x=o.sub x:=by refine((Z e ?_):(h.o r).bind (Obj.sub x)=_);rfl
theorem wn(e:h.o r=U o):dK h x (.ref r)=o.dK x:=by refine((Z e ?_):(h.o r).bind (Obj.dK x)=_);rfl
theorem qW(e:h.o r=U o):kindOf h (.ref r)=U o.F8:=by refine((Z e ?_):(h.o r).map Obj.F8=_);rfl
theorem kf{Q:Hp->Prop}(e:h.o r=U o)(q:o.D4 x y λx=>Q (h.set r x)):gy h (.ref r) x y Q:=ab (o:=V.ud (.ref r)) rfl (ab e q)
theorem Aj{Q:Hp->Prop}(e:h.o r=U o)(q:o.md x λx=>Q (h.set r x)):AB h (.ref r) x Q:=ab (o:=V.ud (.ref r)) rfl (ab e q)
theorem j5(e:h.o r=U o)(q:o.cont h r m vs Q):ih h (.ref r) m vs Q:=ab (o:=V.ud (.ref r)) rfl (ab e q)
theorem m0(e:h.o r=U o):It.start h (.ref r)=o.it r (h.e4 r):=by refine((Z e ?_):(h.o r).bind _=_);rfl
theorem wD(e:h.o r=U o)(q:o.oU Q h):pQ .sorted [.ref r] Q h:=(ab e q:bB (h.o r) (Obj.oU Q h))
theorem Bm{k:Nat}{v:V}{P:V->Prop}(R:AR h A)(H:A.o k t=U (.dS fs))(e:bc fs f=U v)(q:P v):
  bB (bC h (A.R k t)) (tX f P):=by
 exact ab (fQ (R.dS H)) (ab e q)
theorem Iu{k:Nat}(R:AR h A)(H:A.o k t=U (.dS fs))(e:bc fs f=KT):
  bB (bC h (A.R k t)) (Ge f):=by
 exact ab (fQ (R.dS H)) e
theorem gx{k:Nat}{fs':List (String×V)}{P:Hp->Prop}(R:AR h A)(H:A.o k t=U (.dS fs))(l:fs.length<900)(e:bA fs f v=fs')(q:∀h',AR h' (A.set k t (.dS fs'))->P h'):
  bB (bC h (A.R k t)) (BF (A.R k t) f v P h):=by
 exact ab (fQ (R.dS H)) ⟨l,q _ (R.set H (congrArg Obj.dS e))⟩
theorem cI{k:Nat}{i:Int}{g:Int->Option V}{v:V}{P:V->Prop}(R:AR h A)(e:A.o k t=U (.dI u g))(H:g i=U v)(q:P v):bB (lu h (.ref (A.R k t)) (.int i)) P:=by exact il (R.dI e) λes E _ _ _ a=>ab ((rA E).trans ((a i).trans H)) q
theorem dm{k:Nat}{v:V}{P:V->Prop}(R:AR h A)(e:A.o k t=U (.dS fs))(H:bc fs i=U v)(q:P v):bB (lu h (.ref (A.R k t)) (.str i)) P:=by exact ab ((rA (R.dS e)).trans H) q
theorem F3{k:Nat}{g:List Int->Option V}{v:V}{i:List Int}{P:V->Prop}(R:AR h A)(e:A.o k t=U (.dP u g))(H:df x=U i)(G:g i=U v)(q:P v):bB (lu h (.ref (A.R k t)) x) P:=by exact il (R.dP e) λes E _ _ _ a=>ab ((rA E).trans ((Z H ((a i).trans G)):(df x).bind (bc es)=_)) q
theorem jX{k:Nat}{v:V}{P:V->Prop}(R:AR h A)(e:A.o k t=U (.list xs))(H:jr xs i=U v)(q:P v):bB (lu h (.ref (A.R k t)) (.int i)) P:=by exact ab ((rA (R.ip e)).trans H) q
theorem bU{k:Nat}(R:AR h A)(e:A.o k t=U (.list xs)):ca h (.ref (A.R k t))=U xs:=by refine((Z (R.ip e) ?_):(h.o _).bind Obj.ip=_);rfl
theorem cD{k:Nat}{P:List V->Prop}(R:AR h A)(e:A.o k t=U (.list xs))(q:P xs):bB (ca h (.ref (A.R k t))) P:=ab (bU R e) q
theorem w8{k:Nat}{g:Int->Option V}(R:AR h A)(e:A.o k t=U (.dI u g)):dK h (.int i) (.ref (A.R k t))=U (g i).isSome:=by exact il (R.dI e) λes E _ _ _ a=>(wn E).trans (congrArg (λo=>U (R7 o)) (a i))
theorem C3{k:Nat}{g:List Int->Option V}{i:List Int}(R:AR h A)(e:A.o k t=U (.dP u g))(H:df x=U i):dK h x (.ref (A.R k t))=U (g i).isSome:=by exact il (R.dP e) λes E _ _ _ a=>(wn E).trans ((Z H (congrArg (λo=>U (R7 o)) (a i))):(df x).map _=_)
theorem qZ{k:Nat}{i:Int}{g:Int->Option V}{P:Bool->Prop}(R:AR h A)(e:A.o k t=U (.dI u g))(q:P (g i).isSome):bB (gI h .dK (.int i) (.ref (A.R k t))) P:=ab (w8 R e) q
theorem fS{k:Nat}{i:Int}{g:Int->Option V}{P:Bool->Prop}(R:AR h A)(e:A.o k t=U (.dI u g))(q:P (!(g i).isSome)):bB (gI h .eY (.int i) (.ref (A.R k t))) P:=
 ab (show(dK h _ _).map _=_ by rw[w8 R e];rfl) q
theorem Ao{k:Nat}{g:List Int->Option V}{i:List Int}{P:Bool->Prop}(R:AR h A)(e:A.o k t=U (.dP u g))(H:df x=U i)(q:P (!(g i).isSome)):bB (gI h .eY x (.ref (A.R k t))) P:=
 ab (show(dK h _ _).map _=_ by rw[C3 R e H];rfl) q
theorem cF{k:Nat}{i:Int}{g:Int->Option V}{v:V}{P:Hp->Prop}(R:AR h A)(e:A.o k t=U (.dI u g))(H:i∈u)(q:∀h',AR h' (A.set k t (.dI u (ft g i (U v))))->P h'):gy h (.ref (A.R k t)) (.int i) v P:=by
 refine il (R.dI e) λes d E a b f=>kf d ⟨K6 (gm E a) (Mx b (by decide)),q _ (R.set e ⟨_,rfl,kY E,λx m=>?_,b,λx=>?_⟩)⟩
 ·rw[eL] at m
  by_cases c:x=i;·exact Z c H
  ·rw[if_neg c] at m;exact a x m
 ·rw[eL,f];rfl
theorem oB{k:Nat}{g:List Int->Option V}{v:V}{i:List Int}{P:Hp->Prop}(R:AR h A)(e:A.o k t=U (.dP u g))(H:df x=U i)(I:i∈u)(q:∀h',AR h' (A.set k t (.dP u (ft g i (U v))))->P h'):
  gy h (.ref (A.R k t)) x v P:=by
 refine il (R.dP e) λes d E a b f=>kf d (ab H ⟨K6 (gm E a) (Mx b (by decide)),q _ (R.set e ⟨_,rfl,kY E,λx m=>?_,b,λx=>?_⟩)⟩)
 ·rw[eL] at m
  by_cases c:x=i;·exact Z c I
  ·rw[if_neg c] at m;exact a x m
 ·rw[eL,f];rfl
theorem y'{k:Nat}{fs':List (String×V)}{P:Hp->Prop}(R:AR h A)(e:A.o k t=U (.dS fs))(l:fs.length<900)(H:bA fs f v=fs')(q:∀h',AR h' (A.set k t (.dS fs'))->P h'):
  gy h (.ref (A.R k t)) (.str f) v P:=by
 exact kf (R.dS e) ⟨Mx l (by decide),q _ (R.set e (congrArg Obj.dS H))⟩
theorem zV{k:Nat}{i:Int}{g:Int->Option V}{v:V}{P:Hp->Prop}(R:AR h A)(e:A.o k t=U (.dI u g))(H:g i=U v)(q:∀h',AR h' (A.set k t (.dI u (ft g i KT)))->P h'):AB h (.ref (A.R k t)) (.int i) P:=by
 refine il (R.dI e) λes f E a b d=>Aj f ⟨by(rw[d];refine Z H ?_);rfl,?_,q _ (R.set e ⟨_,rfl,ja E,λx m=>?_,b,λx=>?_⟩)⟩;·exact LJ (K6 (gm E a) (Mx b (by decide)))
 ·rw[hM] at m
  by_cases c:x=i;·rw[if_pos c] at m;exact aK m
  ·rw[if_neg c] at m;exact a x m
 ·rw[hM,d];rfl
theorem yQ{k:Nat}{g:List Int->Option V}{v:V}{i:List Int}{P:Hp->Prop}(R:AR h A)(e:A.o k t=U (.dP u g))(H:df x=U i)(I:g i=U v)(q:∀h',AR h' (A.set k t (.dP u (ft g i KT)))->P h'):
  AB h (.ref (A.R k t)) x P:=by
 refine il (R.dP e) λes f E a b d=>Aj f (ab H ⟨by(rw[d];refine Z I ?_);rfl,?_,q _ (R.set e ⟨_,rfl,ja E,λx m=>?_,b,λx=>?_⟩)⟩);·exact LJ (K6 (gm E a) (Mx b (by decide)))
 ·rw[hM] at m
  by_cases c:x=i;·rw[if_pos c] at m;exact aK m
  ·rw[if_neg c] at m;exact a x m
 ·rw[hM,d];rfl
theorem aq{k:Nat}(R:AR h A)(e:A.o k t=U (.list xs)):kindOf h (.ref (A.R k t))=U true:=qW (R.ip e)
theorem rj{k:Nat}{g:List Int->Option V}(R:AR h A)(e:A.o k t=U (.dP u g)):kindOf h (.ref (A.R k t))=U false:=by exact aD (R.dP e) λes E _=>qW E
theorem bJ{k:Nat}{v:V}{Q:PV}(R:AR h A)(e:A.o k t=U (.list xs))(l:xs.length<aN)(q:∀h',AR h' (A.set k t (.list (xs++[v])))->Q .none h'):ih h (.ref (A.R k t)) "append" [v] Q:=by exact j5 (R.ip e) ⟨rfl,.inl ⟨rfl,l,q _ (R.set e rfl)⟩⟩
theorem iT{k:Nat}{ys:List V}{v:V}{Q:PV}(R:AR h A)(e:A.o k t=U (.list xs))(n:v≠.ref (A.R k t))(H:ca h v=U ys)(l:xs.length+ys.length<=aN)
  (q:∀h',AR h' (A.set k t (.list (xs++ys)))->Q .none h'):ih h (.ref (A.R k t)) "extend" [v] Q:=by
 exact j5 (R.ip e) ⟨rfl,.inr ⟨rfl,n,ab H ⟨l,q _ (R.set e rfl)⟩⟩⟩
theorem pY{k:Nat}{xs:List V}{v:V}{Q:PV}(R:AR h A)(e:A.o k t=U (.list (xs++[v])))(l:xs.length<aN)(q:∀h',AR h' (A.set k t (.list xs))->Q v h'):ih h (.ref (A.R k t)) "pop" [] Q:=by refine j5 (R.ip e) ⟨rfl,by refine Z KW ?_;exact l,ab (by refine Z (List.getLast?_append) ?_;rfl) (q _ (R.set e ?_))⟩;refine Z List.dropLast_concat ?_;rfl
theorem Bo{k:Nat}{g:List Int->Option V}{i:List Int}{Q:PV}(R:AR h A)(e:A.o k t=U (.dP u g))(H:df x=U i)(q:Q ((g i).getD .none) h):ih h (.ref (A.R k t)) "get" [x] Q:=by exact il (R.dP e) λes E _ _ _ a=>j5 E (ab H ⟨rfl,Z (a _) q⟩:bB (df x) _)
theorem bz{xs:List V}{Q:PV}(l:xs.length<=aN)(q:Q (.fl xs) h):newList xs Q h:=by unfold newList;exact⟨l,.inl q⟩
theorem c6(k:Nat)(t:Int){xs:List V}{Q:PV}(R:AR h A)(l:xs.length<=aN)(q:∀n h',AR h' (A.new k t n (.list xs))->Q (.ref ⟨k,t,n⟩) h'):newList xs Q h:=by unfold newList;exact⟨l,.inr ⟨k,t,q _ _ (R.new k t rfl)⟩⟩
theorem mY(k:Nat)(t:Int)(u:List Int){Q:PV}(R:AR h A)(l:u.length<900)(q:∀n h',AR h' (A.new k t n (.dI u λ_=>KT))->Q (.ref ⟨k,t,n⟩) h'):dH [] [] Q h:=
 .inl ⟨k,t,q _ _ (R.new k t ⟨[],rfl,Mw,λ_ e=>(nomatch e),l,λ_=>rfl⟩)⟩
theorem Fj(k:Nat)(t:Int)(u:List (List Int)){Q:PV}(R:AR h A)(l:u.length<900)(q:∀n h',AR h' (A.new k t n (.dP u λ_=>KT))->Q (.ref ⟨k,t,n⟩) h'):dH [] [] Q h:=
 .inr (.inl ⟨k,t,q _ _ (R.new k t ⟨[],rfl,Mw,λ_ e=>(nomatch e),l,λ_=>rfl⟩)⟩)
theorem EC(k:Nat)(t i:Int)(v:V)(u:List Int){Q:PV}(R:AR h A)(l:u.length<900)(H:i∈u)(q:∀n h',AR h' (A.new k t n (.dI u (ft (λ_=>KT) i (U v))))->Q (.ref ⟨k,t,n⟩) h'):dH [.int i] [v] Q h:=
 ⟨k,t,q _ _ (R.new k t ⟨_,rfl,Ll.mpr ⟨MU,Mw⟩,(λx e=>by
  have e:(if i=x then U v else KT).isSome=true:=e;by_cases c:i=x;·exact hR c H
  ·rw[if_neg c] at e;exact aK e),l,λx=>by
  refine(?_ :(if i=x then U v else KT)=if x=i then U v else KT);by_cases c:i=x;·exact Z (if_pos c) (Z (if_pos c.symm) rfl)
  ·exact Z (if_neg c) (Z (if_neg λe=>c e.symm) rfl)⟩)⟩
end
theorem cx{K:aV->Hp->Prop}{P:PS}{a:aV}(q:K a h):Fl.seq K P .next a h:=q
theorem h8{c:aV->(Bool->Hp->Prop)->Hp->Prop}{b:aV->PS->Hp->Prop}(I:Nat->aV->Hp->Prop)
  (step:∀m a h (K:aV->Hp->Prop),I m a h->(∀M,M<m->∀a h,I M a h->K a h)->c a (BD (b a (Fl.seq K Q)) (Q .next a)) h)
  {m:Nat}{a:aV}{h:Hp}(i:I m a h):∃n,qo c b n a Q h:=by
 have:∀n m a h,I m a h->m<n->qo c b n a Q h:=by
  intro n;induction n with
  |zero=>intro m _ _ _ l;cases l
  |succ n H=>exact λm a h i l=>step m a h (n6 (qo c b n) Q) i λM L a h i=>H M a h i (bM (io _ _ _) 0x1137813113911381311379 rfl l L)
 exact⟨m+1,this _ _ _ _ i (L7 m)⟩
theorem iz{t:V->aV->(aV->Hp->Prop)->Hp->Prop}{b:aV->PS->Hp->Prop}(I:List V->aV->Hp->Prop)
  (step:∀v l a h (K:aV->Hp->Prop),I (v::l) a h->(∀a h,I l a h->K a h)->t v a (n6 b (Fl.seq K Q)) h)
  (cU:∀a h,I [] a h->Q .next a h):∀(l:List V) {a:aV} {h:Hp},I l a h->∃n,dr t b n (.bo l) a Q h:=by
 have:∀(l:List V) a h,I l a h->dr t b (l.length+1) (.bo l) a Q h:=by
  intro l;induction l with
  |nil=>exact λa h i=>cU a h i
  |cons v l H=>exact λa h i=>step v l a h _ i λa h i=>H a h i
 exact λl a h i=>⟨_,this l a h i⟩
theorem tC{r:cq}{j:Nat}(e:h.o r=U (.list xs))(l:xs.length<=j):(It.c0 r j).next h=U KT:=by refine((Z e ?_):((h.o r).bind Obj.ip).map _=_);refine((Z (N6 l) ?_):U (xs[j]?.map _)=_);rfl
theorem qb{r:cq}{j:Nat}(e:h.o r=U (.list xs))(l:j<xs.length):(It.c0 r j).next h=U (U (xs[j],.c0 r (j+1))):=by refine((Z e ?_):((h.o r).bind Obj.ip).map _=_);refine((Z (L8 l) ?_):U (xs[j]?.map _)=_);rfl
theorem i6{o p:Option (Option (V×It))}{F:Prop}{g:V->It->Prop}(e:o=p)(q:oi p F g):oi o F g:=Z e q
theorem iN{t:V->aV->(aV->Hp->Prop)->Hp->Prop}{b:aV->PS->Hp->Prop}{r:cq}(I:List V->aV->Hp->Prop)(same:∀l a h,I l a h->h.o r=U (.list xs))
  (step:∀v l a h (K:aV->Hp->Prop),v∈xs->I (v::l) a h->(∀a h,I l a h->K a h)->t v a (n6 b (Fl.seq K Q)) h)
  (cU:∀a h,I [] a h->Q .next a h){a:aV}{h:Hp}(i:I xs a h):∃n,dr t b n (.c0 r 0) a Q h:=by
 have:∀(m j:Nat) a h,xs.length=j+m->I (xs.drop j) a h->dr t b (m+1) (.c0 r j) a Q h:=by
  intro m;induction m with
  |zero=>intro j a h e i;have l:xs.length<=j:=K2 e;replace i:=(MQ l)▸i;exact i6 (tC (same _ _ _ i) l) (cU a h i)
  |succ m H=>intro j a h e i;have lt:j<xs.length:=bM (io _ _ _) 0x11378131113978 rfl (K2 e.symm);rw[ME lt] at i;exact i6 (qb (same _ _ _ i) lt) (step _ _ a h (n6 (dr t b (m+1) (.c0 r (j+1))) Q) (NA lt) i λa h i=>H (j+1) a h (Md (bM (io _ _ _) 0x7191138137111398 rfl (K2 e)) (bM (io _ _ _) 0x1811379131113879 rfl (K2 e.symm))) i)
 exact⟨_,this xs.length 0 a h (Md (bM (kS _) 464643 rfl) (bM (kS _) 94263 rfl)) i⟩
theorem toList_len:∀(x:Option V),x.toList.length<=1
 |none=>Lf _
 |some _=>K9 _
theorem Ag{step:V->List V->(List V->Hp->Prop)->Hp->Prop}{f:V->Option V}{Q:List V->Hp->Prop}:∀(l acc:List V),acc.length+l.length<=aN->(∀v∈l,∀acc (K:List V->Hp->Prop),acc.length<aN->K (acc++(f v).toList) h->step v acc K h)->Q (acc++l.filterMap f) h->
  iter step (l.length+1) (.bo l) acc Q h
 |[],acc,_,_,q=>by simp only[Ps,Lk] at q;exact q
 |v::l,acc,b,s,q=>by
  replace b:=LK▸b;refine s v KX acc _ (bM (io _ _ _) 0x11378131113978 rfl b) (Ag l _ ?_ (λx m=>s x (K1 _ m)) ?_)
  ·have:=toList_len (f v)
   exact Z KW (bM (lN _ _ _ _) 0x19187a13111397a13813 rfl b this)
  have:(v::l).filterMap f=(f v).toList++l.filterMap f:=by simp only[Lu];cases f v<;>rfl
  simp only[Lj,<-this];exact q
theorem wF{step:V->List V->(List V->Hp->Prop)->Hp->Prop}{f:V->Option V}{Q:List V->Hp->Prop}{r:cq}(e:h.o r=U (.list xs))(s:∀v∈xs,∀acc (K:List V->Hp->Prop),acc.length<aN->K (acc++(f v).toList) h->step v acc K h):
  ∀(m j:Nat) (acc:List V),acc.length+m<=aN->xs.length=j+m->Q (acc++(xs.drop j).filterMap f) h->iter step (m+1) (.c0 r j) acc Q h
 |0,j,acc,_,l,q=>by rw[MQ (by exact bM (gF _ _) 0x781371038 rfl (K2 l)),Ps,Lk] at q;exact i6 (tC e (K2 l)) q
 |m+1,j,acc,b,l,q=>by
  have lt:j<xs.length:=by exact bM (io _ _ _) 0x11378131113978 rfl (K2 l.symm)
  refine i6 (qb e lt) (s _ (NA lt) acc _ (by exact bM (io _ _ _) 0x11378131113978 rfl b) (wF e s m (j+1) _ ?_ (by exact Md (bM (io _ _ _) 0x7191138137111398 rfl (K2 l)) (bM (io _ _ _) 0x1811379131113879 rfl (K2 l.symm))) ?_))
  ·have:=toList_len (f xs[j])
   exact Z KW (bM (lN _ _ _ _) 0x19187a13111397a13813 rfl b this)
  have:(xs.drop j).filterMap f=(f xs[j]).toList++(xs.drop (j+1)).filterMap f:=by simp only[ME lt,Lu];cases f xs[j]<;>rfl
  simp only[Lj,<-this];exact q
end ai
namespace ai.M
abbrev cj:=Int×Int×Option Int
abbrev Up:=Int->Option (Int×Option Int)
noncomputable def arg(t:Int):Option Int:=if t=9 then U 3 else if t=10 then U 4 else if t=11 then U 5 else KT
inductive cf(E:List cj)(x:Int):Int->Prop
 |refl:cf E x x
 |uO {y z w}:cf E x y->(y,z,w)∈E->cf E x z
 |wL {y z w}:cf E x y->(z,y,w)∈E->cf E x z
end ai.M
namespace ai.M.cf
theorem trans(a:cf E x y)(b:cf E y z):cf E x z:=by
 induction b with
 |refl=>exact a
 |uO _ m i=>exact .uO i m
 |wL _ m i=>exact .wL i m
theorem symm(a:cf E x y):cf E y x:=by
 induction a with
 |refl=>exact .refl
 |uO _ m i=>exact(cf.wL .refl m).trans i
 |wL _ m i=>exact(cf.uO .refl m).trans i
theorem bv{E b:List cj}(s:∀e∈E,e∈b)(a:cf E x y):cf b x y:=by
 induction a with
 |refl=>exact .refl
 |uO _ m i=>exact .uO i (s _ m)
 |wL _ m i=>exact .wL i (s _ m)
end ai.M.cf
namespace ai.M
inductive Cl(T:Int->Int->Prop):Int->Int->Prop
 |je {x y}:T x y->Cl T x y
 |refl {x}:Cl T x x
 |symm {x y}:Cl T x y->Cl T y x
 |trans {x y z}:Cl T x y->Cl T y z->Cl T x z
 |congr {x y u v}:arg x=U u->arg y=U v->Cl T u v->Cl T x y
theorem Cl.bv{T t:Int->Int->Prop}(s:∀x y,T x y->t x y){x y:Int}(a:Cl T x y):Cl t x y:=by
 induction a with
 |je h=>exact .je (s _ _ h)
 |refl=>exact .refl
 |symm _ i=>exact i.symm
 |trans _ _ a b=>exact a.trans b
 |congr a b _ i=>exact .congr a b i
inductive dT(T:Int->Int->Int->Prop):List cj->Prop
 |nil:dT T []
 |je {E x y m}:dT T E->T m x y->dT T (E++[(x,y,U m)])
 |args {E x y u v}:dT T E->arg x=U u->arg y=U v->cf E u v->dT T (E++[(x,y,KT)])
theorem dT.eg{T:Int->Int->Int->Prop}{E:List cj}(g:dT T E){x y:Int}(c:cf E x y):Cl (λa b=>∃m,T m a b) x y:=by
 have o:∀{E:List cj},(∀a b w,(a,b,w)∈E->Cl (λa b=>∃m,T m a b) a b)->∀{x y},cf E x y->Cl (λa b=>∃m,T m a b) x y:=by
  intro E h x y c;induction c with
  |refl=>exact .refl
  |uO _ m i=>exact i.trans (h _ _ _ m)
  |wL _ m i=>exact i.trans (h _ _ _ m).symm
 refine o ?_ c;clear c;induction g with
 |nil=>intro a b w h;cases h
 |je g t i=>intro a b w h;refine K4 (K8.mp h) (λh=>i a b w h) λh=>?_;cases KU.mp h;exact .je ⟨_,t⟩
 |args g e d c i=>
  intro a b w h;refine K4 (K8.mp h) (λh=>i a b w h) λh=>?_
  ·cases KU.mp h
   exact .congr e d (o i c)
theorem dT.bv{T d:Int->Int->Int->Prop}(s:∀m x y,T m x y->d m x y){E:List cj}(g:dT T E):dT d E:=by
 induction g with
 |nil=>exact .nil
 |je _ t i=>exact .je i (s _ _ _ t)
 |args _ a b c i=>exact .args i a b c
inductive Fin(up:Up):Int->Prop
 |intro {x}:(∀y w,up x=U (y,w)->Fin up y)->Fin up x
def ik(up:Up):Prop:=∀x,Fin up x
inductive a6(up:Up):Int->Int->Prop
 |refl {x}:a6 up x x
 |step {x y w z}:up x=U (y,w)->a6 up y z->a6 up x z
theorem a6.trans{up:Up}{x y z:Int}(a:a6 up x y)(b:a6 up y z):a6 up x z:=by
 induction a with
 |refl=>exact b
 |step e _ i=>exact .step e (i b)
set_option tactic.hygienic true in
theorem Fin.kr{up:Up}{x y:Int}{w}(f:Fin up x):up x=U (y,w)->¬a6 up y x:=by
 induction f generalizing y w with
 |intro h i=>
  rename_i x
  intro e r
  induction r with
  |refl=>exact i _ _ e e .refl
  |step E R=>exact i _ _ e E (R.trans (.step e .refl))
theorem a6.GQ{up:Up}(A:ik up){x y:Int}(a:a6 up x y)(b:a6 up y x):x=y:=by
 cases a with
 |refl=>rfl
 |step e r=>exact((A x).kr e (r.trans b)).elim
theorem a6.Fi{up:Up}{x a b:Int}(p:a6 up x a)(q:a6 up x b):a6 up a b\/a6 up b a:=by
 induction p with
 |refl=>exact .inl q
 |step e r i=>
  induction q with
  |refl=>exact .inr (.step e r)
  |step E R=>replace E:=e▸E;(cases KP E);exact i R
def kK(up:Up)(a b c:Int):Prop:=(a6 up a c/\¬a6 up b c)\/(a6 up b c/\¬a6 up a c)
def b7(up:Up)(E:List cj):Prop:=ik up/\(∀x y w,up x=U (y,w)->(x,y,w)∈E\/(y,x,w)∈E)/\∀x y w,(x,y,w)∈E->up x=U (y,w)\/up y=U (x,w)
def ou(up:Up)(S:List cj)(c:Int):Prop:=∃p w,up c=U (p,w)/\((c,p,w)∈S\/(p,c,w)∈S)
theorem DY{S:List cj}(F:b7 up E)(s:∀e∈S,e∈E)(k:cf S a b)(c:Int):(a6 up a c↔a6 up b c)\/ou up S c:=by
 have dZ:∀{y z w},((y,z,w)∈S\/(z,y,w)∈S)->up y=U (z,w)->(a6 up y c↔a6 up z c)\/ou up S c:=by
  intro y z w m e;by_cases q:c=y;·subst q;exact .inr ⟨z,w,e,m⟩
  ·refine .inl ⟨λr=>?_,λr=>.step e r⟩
   clear m;induction r with
   |refl=>exact(q rfl).elim
   |step d R=>replace d:=e▸d;obtain⟨rfl,rfl⟩:=LQ (KP d);exact R
 induction k with
 |refl=>exact .inl Tj
 |uO _ m i=>refine K4 i (λi=>?_) λi=>.inr i;·exact K4 (F.2.2 _ _ _ (s _ m)) (λe=>K4 (dZ (.inl m) e) (λo=>.inl (i.trans o)) λo=>.inr o) λe=>K4 (dZ (.inr m) e) (λo=>.inl (i.trans o.symm)) λo=>.inr o
 |wL _ m i=>refine K4 i (λi=>?_) λi=>.inr i;·exact K4 (F.2.2 _ _ _ (s _ m)) (λe=>K4 (dZ (.inl m) e) (λo=>.inl (i.trans o.symm)) λo=>.inr o) λe=>K4 (dZ (.inr m) e) (λo=>.inl (i.trans o)) λo=>.inr o
theorem kq{S:List cj}(F:b7 up E)(s:∀e∈S,e∈E){c:Int}(k:cf S a b)(h:kK up a b c):ou up S c:=by refine K4 (DY F s k c) (λe=>?_) λe=>e;·exact K4 h (λr=>ay r λp q=>(q (e.mp p)).elim) λR=>ay R λp q=>(q (e.mpr p)).elim
set_option tactic.hygienic true in
theorem H0(A:ik up){Q:Int->Int->Prop}(F:∀x,Q x x)(S:∀{x y},Q x y->Q y x)(tr:∀{x y z},Q x y->Q y z->Q x z):
  ∀{a b:Int},a6 up a m->a6 up b m->(∀c p w,kK up a b c->up c=U (p,w)->Q c p)->Q a b:=by
 have ui:∀{a b:Int},a6 up b a->(∀c p w,kK up a b c->up c=U (p,w)->Q c p)->Q b a:=by
  intro a b r
  induction r with
  |refl=>intro _;exact F _
  |step e r i=>
   rename_i x y w z
   intro h
   have nx:¬a6 up z x:=λq=>(A x).kr e (r.trans q)
   refine tr (h x y w (.inr ⟨.refl,nx⟩) e) (i λc p W s f=>h c p W ?_ f)
   rcases s with⟨p1,P⟩ |⟨p1,P⟩
   ·refine .inl ⟨p1,λq=>?_⟩
    clear f
    cases q with
    |refl=>exact nx p1
    |step E R=>replace E:=e▸E;obtain⟨rfl,rfl⟩:=LQ (KP E);exact P R
   ·exact .inr ⟨.step e p1,P⟩
 intro a b g
 induction g with
 |refl=>intro B h;exact S (ui B h)
 |step e r i=>
  rename_i x y w m
  intro B h
  by_cases c:a6 up b x
  ·exact S (ui c h)
  ·refine tr (h x y w (.inl ⟨.refl,c⟩) e) (i B λd p W s f=>h d p W ?_ f)
   rcases s with⟨p1,P⟩ |⟨p1,P⟩
   ·exact .inl ⟨.step e p1,P⟩
   ·refine .inr ⟨p1,λq=>?_⟩
    clear f
    cases q with
    |refl=>exact c p1
    |step E R=>replace E:=e▸E;obtain⟨rfl,rfl⟩:=LQ (KP E);exact P R
set_option tactic.hygienic true in
theorem FM(f:Fin up x):∃r,a6 up x r/\up r=KT:=by
 induction f with
 |intro h i=>
  rename_i x
  induction e:up x with
  |none=>exact⟨x,.refl,e⟩
  |some p=>
   obtain⟨y,w⟩:=p
   exact aD (i y w e) λr a b=>⟨r,.step e a,b⟩
theorem pa{S:List cj}(F:b7 up E)(s:∀e∈S,e∈E)(k:cf S a b):∃m,a6 up a m/\a6 up b m:=by refine aD (FM (F.1 a)) λr h H=>K4 (DY F s k r) (λe=>⟨r,h,e.mp h⟩) λR=>eB R λp w e _=>?_;replace e:=H▸e;cases e
def jY(up:Up)(X:Int->Prop):Prop:=∀c p u v,X c->up c=U (p,KT)->arg c=U u->arg p=U v->∀d,kK up u v d->X d
theorem FT{T:Int->Int->Int->Prop}(F:b7 up E)(g:dT T E){X R:Int->Prop}(C:jY up X)(hR:∀c p m,X c->up c=U (p,U m)->R m)
  {a b:Int}(k:cf E a b)(f:∀c,kK up a b c->X c):Cl (λx y=>∃m,R m/\T m x y) a b:=by
 have cU:∀{S:List cj},(∀e∈S,e∈E)->(∀x y w,(x,y,w)∈S->(up x=U (y,w)->X x->Cl (λx y=>∃m,R m/\T m x y) x y)/\(up y=U (x,w)->X y->Cl (λx y=>∃m,R m/\T m x y) x y))->
   ∀{a b},cf S a b->(∀c,kK up a b c->X c)->Cl (λx y=>∃m,R m/\T m x y) a b:=by
  intro S s h a b k f;refine aD (pa F s k) λm p q=>H0 F.1 (Q:=Cl λx y=>∃m,R m/\T m x y) (λx=>.refl) .symm .trans p q λc p w P e=>eB (kq F s k P) λo W n m=>?_;replace n:=e▸n;(cases KP n);rcases m with m |m
  ·exact(h _ _ _ m).1 e (f c P)
  ·exact((h _ _ _ m).2 e (f c P)).symm
 refine cU (λe m=>m) ?_ k f;clear k f;have all:∀{S:List cj},dT T S->(∀e∈S,e∈E)->∀x y w,(x,y,w)∈S->(up x=U (y,w)->X x->Cl (λx y=>∃m,R m/\T m x y) x y)/\(up y=U (x,w)->X y->Cl (λx y=>∃m,R m/\T m x y) x y):=by
  intro S g;induction g with
  |nil=>intro _ x y w h;exact(nomatch h)
  |je g t i=>
   intro s x y w h;refine K4 (K8.mp h) (λh=>i (λe m=>s e (Lb _ m)) x y w h) λh=>?_
   ·cases KU.mp h
    exact⟨λe H=>.je ⟨_,hR _ _ _ H e,t⟩,λe H=>.je ⟨_,hR _ _ _ H e,t⟩⟩
  |args g j l c i=>
   intro s x y w h;have s':=λe m=>s e (Lb _ m);rcases K8.mp h with h |h
   ·exact i s' x y w h
   ·cases KU.mp h
    exact⟨λe H=>.congr j l (cU s' (i s') c λd P=>C _ _ _ _ H e j l d P),λe H=>.congr j l (cU s' (i s') c λd P=>C _ _ _ _ H e l j d (P.elim .inr .inl))⟩
 exact all g λe m=>m
theorem vA{S:List cj}{T:Int->Int->Int->Prop}(F:b7 up E)(g:dT T S)(s:∀e∈S,e∈E):jY up (ou up S):=by
 have key:∀{S':List cj},dT T S'->(∀e∈S',e∈E)->∀x y u v,(x,y,KT)∈S'->arg x=U u->arg y=U v->cf S' u v:=by
  intro S' g;induction g with
  |nil=>intro _ x y u v h;cases h
  |je g t i=>intro s x y u v h a b;refine K4 (K8.mp h) (λh=>(i (λe m=>s e (Lb _ m)) x y u v h a b).bv λe m=>Lb _ m) λh=>?_;clear a b;cases KU.mp h
  |args g j k c i=>
   intro s x y u v h a b;refine K4 (K8.mp h) (λh=>(i (λe m=>s e (Lb _ m)) x y u v h a b).bv λe m=>Lb _ m) λh=>?_
   ·cases KU.mp h
    replace a:=j▸a;replace b:=k▸b;(replace a:=KP a;subst a);obtain rfl:=KP b;exact c.bv λe m=>Lb _ m
 intro c p u v ⟨l,w,e,m⟩ f a b d P;replace f:=e▸f;clear e;obtain⟨rfl,rfl⟩:=LQ (KP f);exact K4 m (λm=>kq F s (key g s _ _ _ _ m a b) P) λm=>kq F s (key g s _ _ _ _ m b a).symm P
noncomputable def aH{a b:Type}[DecidableEq a](f:a->b)(k:a)(v:b):a->b:=λx=>if x=k then v else f x
section
variable {α β:Type} [DecidableEq α]
theorem aP(f:α->β)(k:α)(v:β):aH f k v k=v:=if_pos rfl
theorem aI(f:α->β){k x:α}(v:β)(h:x≠k):aH f k v x=f x:=if_neg h
theorem e8(f:α->β)(k:α)(v w:β):aH (aH f k v) k w=aH f k w:=by
 funext x;by_cases h:x=k;·subst h;simp only[aP,aP]
 ·simp only[aI _ _ h,aI _ _ h,aI _ _ h]
theorem dn(f:α->β)(k:α):aH f k (f k)=f:=by
 funext x;by_cases h:x=k;·subst h;exact Z (aP _ _ _) rfl
 ·exact Z (aI _ _ h) rfl
theorem iP(f:α->β){k l:α}(v w:β)(h:k≠l):aH (aH f k v) l w=aH (aH f l w) k v:=by
 funext x;by_cases a:x=k;·subst a;(refine Z (aI _ _ h) ?_;rw[aP,aP])
 ·by_cases b:x=l
  ·clear h;subst b;rw[aP,aI _ _ a,aP]
  ·exact Z (aI _ _ b) (Z (aI _ _ a) (Z (aI _ _ a) (Z (aI _ _ b) rfl)))
end
inductive ev:Up->List Int->Up->Prop
 |dZ {up t}:up t=KT->ev up [t] up
 |cons {up t p w l u}:up t=U (p,w)->ev up (p::l) u->ev up (t::p::l) (aH (aH u t KT) p (U (t,w)))
theorem ev.pI{up u:Up}{l:List Int}(h:ev up l u):∀{t r},l=t::r->∀x∈l,a6 up t x:=by
 induction h with
 |dZ=>intro t r e x m;(injection e with e;subst e);cases KU.mp m;exact .refl
 |cons e h i=>
  intro t r E x m
  (injection E with E;subst E)
  rcases KZ.mp m with rfl |m
  ·exact .refl
  ·exact .step e (i rfl x m)
theorem ev.same{up u:Up}{l:List Int}(h:ev up l u):∀x,x∉l->u x=up x:=by
 induction h with
 |dZ=>intro _ _;rfl
 |cons e h i=>intro x m;simp only[KZ,KZ,not_or,not_or] at m;exact Z (aI _ _ m.2.1) (Z (aI _ _ m.1) (Z (i x (iR KZ (iR not_or m.2))) rfl))
theorem ev.hH{up u:Up}{l:List Int}(h:ev up l u)(A:ik up):l.Nodup:=by
 induction h with
 |dZ=>exact Ll.mpr ⟨MU,Mw⟩
 |cons e h i=>exact Ll.mpr ⟨λm=>(A _).kr e (h.pI rfl _ m),i⟩
theorem ev.head{up u:Up}{l:List Int}(h:ev up l u)(A:ik up):∀{t r},l=t::r->u t=none:=by
 induction h with
 |dZ e=>intro t r E;(injection E with E;subst E);exact e
 |cons e h=>
  intro t r E
  (injection E with E;subst E)
  have:=(ev.cons e h).hH A;rw[Ll] at this
  (exact Z (aI _ _ λq=>this.1 (KZ.mpr (.inl q))) (Z (aP _ _ _) rfl))
set_option tactic.hygienic true in
theorem ev.exists{up:Up}{t:Int}(f:Fin up t):∃l u,ev up (t::l) u:=by
 induction f with
 |intro h i=>
  rename_i x
  induction e:up x with
  |none=>exact⟨[],up,.dZ e⟩
  |some p=>
   obtain⟨y,w⟩:=p
   exact g1 (i y w e) λl u k=>⟨_,_,.cons e k⟩
set_option tactic.hygienic true in
theorem KG(F:b7 up E){c:Int}{w:Option Int}(R:up r=KT)(C:up c=U (r,w)):b7 (aH (aH up c KT) r (U (c,w))) E:=by
 have n:r≠c:=λe=>by replace R:=C▸e▸R;exact(nomatch R)
 have b:∀x,x≠c->x≠r->aH (aH up c KT) r (U (c,w)) x=up x:=λx H a=>Z (aI _ _ a) (Z (aI _ _ H) rfl)
 have d:aH (aH up c KT) r (U (c,w)) c=KT:=by(exact Z (aI _ _ n.symm) (Z (aP _ _ _) rfl))
 have f:aH (aH up c KT) r (U (c,w)) r=U (c,w):=aP _ _ _
 have g:Fin (aH (aH up c KT) r (U (c,w))) c:=⟨λy v e=>by replace e:=d▸e;cases e⟩
 refine⟨λx=>?_,λx y v e=>?_,λx y v m=>?_⟩
 ·induction F.1 x with
  |intro h i=>
   rename_i x
   by_cases H:x=c
   ·clear i f d b n C;subst H;exact g
   ·by_cases a:x=r
    ·clear i d b n C R;subst a;exact⟨λy v e=>by replace e:=f▸e;obtain⟨rfl,rfl⟩:=LQ (KP e);exact g⟩
    ·exact⟨λy v e=>by replace e:=(b x H a)▸e;exact i y v e⟩
 ·by_cases H:x=c
  ·clear g f b n C;subst H;replace e:=d▸e;cases e
  ·by_cases a:x=r
   ·clear g d b n R;subst a;replace e:=f▸e;obtain⟨rfl,rfl⟩:=LQ (KP e)
    exact(F.2.1 _ _ _ C).symm
   ·replace e:=(b x H a)▸e;exact F.2.1 _ _ _ e
 ·have key:∀{x y},up x=U (y,v)->aH (aH up c KT) r (U (c,w)) x=U (y,v)\/aH (aH up c KT) r (U (c,w)) y=U (x,v):=by
   intro x y e
   by_cases H:x=c
   ·clear g d b n;subst H;replace e:=C▸e;clear m;obtain⟨rfl,rfl⟩:=LQ (KP e);exact .inr f
   ·by_cases a:x=r
    ·clear g f d b n C;subst a;replace e:=R▸e;cases e
    ·exact .inl ((b x H a).trans e)
  rcases F.2.2 _ _ _ m with e |e
  ·exact key e
  ·exact(key e).symm
theorem ev.zp{up u:Up}{l:List Int}(h:ev up l u):∀{E:List cj},b7 up E->b7 u E:=by
 induction h with
 |dZ=>intro _ F;exact F
 |cons e h i=>intro E F;exact KG (i F) (h.head F.1 rfl) (Z (h.same _ λm=>(F.1 _).kr e (h.pI rfl _ m)) (e))
set_option tactic.hygienic true in
theorem ev.la{u:Up}{l:List Int}(h:ev u l v){r t:Int}{w:Option Int}(H:l.getLast?=U r)(T:t∉l)(W:u t=U (r,w)):ev (aH (aH u t none) r (U (t,w))) (l++[t]) v:=by
 induction h with
 |dZ e=>
  rename_i s
  (replace H:=KP H;subst H)
  have n:s≠t:=λq=>T (KU.mpr q.symm)
  have:=ev.cons (up:=aH (aH u t none) s (U (t,w))) (t:=s) (aP _ _ _) (.dZ (t:=t) (by(refine Z (aI _ _ n.symm) ?_;rw[aP])))
  have W:u t=U (s,w):=W
  have E:aH (aH (aH (aH u t none) s (U (t,w))) s none) t (U (s,w))=u:=by
   rw[e8,iP _ _ _ n.symm,e8,<-W,iP _ _ _ n,dn,<-e,dn]
  simp only[E] at this
  exact this
 |cons e h i=>
  rename_i s p a l P
  replace H:=(QE)▸H
  rw[KZ,not_or] at T
  have i:=i H T.2
  refine .cons ?_ i
  have R:r∈p::l:=List.mem_of_getLast? H
  have N:s≠r:=λq=>by
   clear i W
   subst q
   have:u s=none:=by
    clear i T R
    have:∀{u:Up} {l v},ev u l v->∀{r},l.getLast?=U r->u r=none:=by
     intro u l v h
     induction h with
     |dZ e=>intro r E;(replace E:=KP E;subst E);exact e
     |cons _ _ i=>intro r E;replace E:=(QE)▸E;exact i E
    exact this h H
   replace e:=this▸e;cases e
  exact Z (aI _ _ N) (Z (aI _ _ (λq=>T.1 q.symm)) (e))
set_option tactic.hygienic true in
theorem ev.IT{up u:Up}{l:List Int}(h:ev up l u)(A:ik up):ev u l.reverse up:=by
 induction h with
 |dZ e=>exact .dZ e
 |cons e h i=>
  rename_i t p w l u
  have n:=(ev.cons e h).hH A
  rw[Ll] at n
  have H:(p::l).reverse.getLast?=U p:=by refine Z (List.getLast?_reverse) ?_;rfl
  have T:t∉(p::l).reverse:=λm=>n.1 (List.mem_reverse.mp m)
  exact Z PH (i.la H T (w:=w) (Z (h.same _ n.1) e))
set_option tactic.hygienic true in
theorem lK(F:b7 up E){w:Option Int}(H:up a=KT)(B:¬a6 up b a):b7 (aH up a (U (b,w))) (E++[(a,b,w)]):=by
 have f:∀x,¬a6 up x a->Fin (aH up a (U (b,w))) x:=by
  intro x
  induction F.1 x with
  |intro h i=>
   rename_i x
   intro n
   refine⟨λy v e=>?_⟩
   rw[aI _ _ (λq=>n (by exact Z q .refl))] at e
   exact i y v e λr=>n (.step e r)
 refine⟨λx=>?_,λx y v e=>?_,λx y v m=>?_⟩
 ·induction F.1 x with
  |intro h i=>
   rename_i x
   refine⟨λy v e=>?_⟩
   by_cases q:x=a
   ·clear i H;subst q
    rw[aP] at e;obtain⟨rfl,rfl⟩:=LQ (KP e)
    exact f _ B
   ·replace e:=(aI _ _ q)▸e;exact i y v e
 ·by_cases q:x=a
  ·clear f B H;subst q
   rw[aP] at e;obtain⟨rfl,rfl⟩:=LQ (KP e)
   exact .inl (Ld _ (Lo _))
  ·replace e:=(aI _ _ q)▸e
   exact(F.2.1 _ _ _ e).imp (Lb _) (Lb _)
 ·refine K4 (K8.mp m) (λm=>?_) λm=>?_
  ·have key:∀{x y},up x=U (y,v)->aH up a (U (b,w)) x=U (y,v):=by
    intro x y e
    exact Z (aI _ _ λq=>by replace e:=H▸q▸e;exact(nomatch e)) e
   exact(F.2.2 _ _ _ m).imp key key
  ·cases KU.mp m
   exact .inl (aP _ _ _)
theorem pJ{E:List cj}{a b:Int}{w:Option Int}(h:cf (E++[(a,b,w)]) x y):cf E x y\/(cf E x a/\cf E b y)\/(cf E x b/\cf E a y):=by
 induction h with
 |refl=>exact .inl .refl
 |uO _ m i=>
  rcases K8.mp m with m |m
  ·exact i.imp (λk=>.uO k m) λq=>q.imp (λk=>⟨k.1,.uO k.2 m⟩) λk=>⟨k.1,.uO k.2 m⟩
  ·cases KU.mp m
   exact K4 i (λk=>.inr (.inl ⟨k,.refl⟩)) λr=>K4 r (λk=>.inr (.inl ⟨k.1,.refl⟩)) λk=>.inl k.1
 |wL _ m i=>
  rcases K8.mp m with m |m
  ·exact i.imp (λk=>.wL k m) λq=>q.imp (λk=>⟨k.1,.wL k.2 m⟩) λk=>⟨k.1,.wL k.2 m⟩
  ·cases KU.mp m
   exact K4 i (λk=>.inr (.inr ⟨k,.refl⟩)) λR=>K4 R (λk=>.inl k.1) λk=>.inr (.inr ⟨k.1,.refl⟩)
end ai.M
namespace ai.L1
inductive e0 where
 |g3 (m:List Int) |jK (m:List Int) (t:Int) |join (s L:Int) (a b c d:Nat) (v:Int) |oH (l top:Int) |apart (dZ o:Int) |a7 (t:Int)
 |ie (t:Int) (h:List Int) |qr (t dZ o:Int)
noncomputable def e0.v:e0->V
 |.g3 m=>.aA [.str "table",.aA (ae m),.none]
 |.jK m t=>.aA [.str "table",.aA (ae m),.int t]
 |.join s l a b c d v=>.aA [.str "join",.int s,.int l,.aA [.int a,.int b,.int c,.int d],.int v]
 |.oH l t=>.aA [.str "edge",.int l,.int t]
 |.apart a b=>.aA [.str "apart",.int a,.int b]
 |.a7 t=>.aA [.str "told",.int t]
 |.ie t h=>.aA [.str "enter",.int t,.fl (ae h)]
 |.qr t a b=>.aA [.str "watch",.int t,.int a,.int b]
structure Hs where
 Y:Int->Int
 mem:Int->List Int
 aM:Int->List Int
 val:Int->Int
 bl:Int->List (Int×Int×Int)
 bK:Int->List Int
 up:M.Up
 bt:List Int->Option Int
 aC:Int->Option (Int×Int)
 a7:Int->Option (Option (Int×Int×Int))
 a4:List Int
 aw:List (Int×Int×Option Int)
 aU:Option (List Int)
 j2:Nat
 ak:List e0
 am:List Nat
 ce:List (Int×Int)
@[reducible] def aj(t:Int):Prop:=3<=t/\t<=11
noncomputable def ar:List Int:=[3,4,5,6,7,8,9,10,11]
theorem zB(h:aj t):∃n:Nat,n<9/\t=3+(n:Int):=by refine cY (Int.le.dest h.1) λn e=>⟨n,?_,e.symm⟩;have:=h.2;replace this:=(e).symm▸this;exact Nd.mp (Int.lt_of_add_lt_add_left (a:=3) (Int.lt_of_le_of_lt this (by decide)))
theorem aR(h:aj t):t∈ar:=by exact aD (zB h) λn l e=>Z e ((by decide:∀n:Nat,n<9->(3+(n:Int))∈ar) n l)
noncomputable def iQ:List (List Int):=ar.map λr=>[0,r]
noncomputable def fw:List Int:=[12,13,14]
noncomputable def hZ(f:Int->Int)(t:Int):Option V:=if aj t then U (.int (f t)) else KT
noncomputable def jD(A:AH)(k:Nat)(t:Int):Option V:=if aj t then U (.ref (A.R k t)) else KT
noncomputable def ty:Option Int->V
 |none=>.str "arguments"
 |some r=>.int r
noncomputable def gU(p:Int×Option Int):V:=.aA [.int p.1,ty p.2]
noncomputable def b'(p:Int×Int):V:=.aA [.int p.1,.int p.2]
noncomputable def ii(p:Int×Int×Int):V:=.aA [.int p.1,.int p.2.1,.int p.2.2]
noncomputable def lC(p:Int×Int×Option Int):V:=.aA [.int p.1,.int p.2.1,ty p.2.2]
noncomputable def fb:Option (Int×Int×Int)->V
 |none=>.aA [.int 1,.none]
 |some c=>.aA [.int (-1),ii c]
noncomputable def sp:Option (List Int)->V
 |none=>.none
 |some l=>.fl (ae l)
noncomputable def sN:Nat:=12
noncomputable def bN:Nat:=1
noncomputable def bC(A:AH)(M:Hs):List (String×V):=[("bank",.eQ "Bank" ⟨31,0,bN⟩),("root",.ref (A.R 1 0)),("members",.ref (A.R 2 0)),("uses",.ref (A.R 3 0)),("value",.ref (A.R 4 0)),("apart",.ref (A.R 5 0)),("watchers",.ref (A.R 6 0)),("up",.ref (A.R 7 0)),("table",.ref (A.R 8 0)),("sides",.ref (A.R 9 0)),("told",.ref (A.R 10 0)),("news",.ref (A.R 11 0)),("queue",.ref (A.R 12 0)),("clash",sp M.aU),("clash_level",.int M.j2),("trail",.ref (A.R 13 0)),("marks",.ref (A.R 14 0))]
noncomputable def dA(A:AH):List (String×V):=[("sort_names",.fl [.str "Bool",.str "Int",.str "Real"]),("sort_widths",.fl [.int 0,.int 0,.int 0]),("fun_names",.ref (A.R 37 0)),("fun_args",.ref (A.R 38 0)),("fun_results",.ref (A.R 39 0)),("fresh_count",.int 0),("term_ops",.ref (A.R 32 0)),("term_args",.ref (A.R 33 0)),("term_sorts",.ref (A.R 34 0)),("term_datas",.ref (A.R 35 0)),("numbers",.ref (A.R 36 0)),("true_number",.int 1),("false_number",.int 2)]
noncomputable def hW(n:Nat):List V:=[.str "",.str "true",.str "false",.str "app",.str "app",.str "app",.str "app",.str "num",.str "num",.str "app",.str "app",.str "app"]++NV n (.str "=")
noncomputable def ez(e:List (Int×Int)):List V:=[.aA [],.aA [],.aA [],.aA [],.aA [],.aA [],.aA [],.aA [],.aA [],.aA [.int 3],.aA [.int 4],.aA [.int 5]]++e.map b'
noncomputable def dU(n:Nat):List V:=[.int 0,.int 0,.int 0,.int 1,.int 2,.int 3,.int 4,.aA [.int 0,.int 1],.aA [.int 1,.int 1],.int 0,.int 0,.int 0]++NV n (.int 0)
structure ah(A:AH)(M:Hs):Prop where
 cl:∀l,M.aU=U l->l.length<=aN
 sn:A.st 30 0=sN
 bn:A.st 31 0=bN
 self:A.o 30 0=U (.dS (bC A M))
 Y:A.o 1 0=U (.dI ar (hZ M.Y))
 mem:A.o 2 0=U (.dI ar (jD A 21))
 aM:A.o 3 0=U (.dI ar (jD A 22))
 val:A.o 4 0=U (.dI ar (hZ M.val))
 bl:A.o 5 0=U (.dI ar (jD A 23))
 bK:A.o 6 0=U (.dI ar (jD A 24))
 up:A.o 7 0=U (.dI ar λt=>(M.up t).map gU)
 bt:A.o 8 0=U (.dP iQ λt=>(M.bt t).map V.int)
 aC:A.o 9 0=U (.dI fw λt=>(M.aC t).map b')
 a7:A.o 10 0=U (.dI fw λt=>(M.a7 t).map fb)
 a4:A.o 11 0=U (.list (ae M.a4))
 aw:A.o 12 0=U (.list (M.aw.map lC))
 ak:A.o 13 0=U (.list (M.ak.map e0.v))
 am:A.o 14 0=U (.list (M.am.map λ(n:Nat)=>V.int n))
 fp:∀t,aj t->A.o 21 t=U (.list (ae (M.mem t)))
 c8:∀t,aj t->A.o 22 t=U (.list (ae (M.aM t)))
 ec:∀t,aj t->A.o 23 t=U (.list (NK ii (M.bl t)))
 fW:∀t,aj t->A.o 24 t=U (.list (ae (M.bK t)))
 fC:A.o 31 0=U (.dS (dA A))
 ops:A.o 32 0=U (.list (hW M.ce.length))
 args:A.o 33 0=U (.list (ez M.ce))
 bF:A.o 35 0=U (.list (dU M.ce.length))
theorem l0{a:Type}{A:AH}{k:Nat}{t:Int}{f:Int->List a}{g:List a->List V}{xs:List V}{l:List a}(h:∀t,aj t->A.o k t=U (.list (g (f t))))(e:xs=g l):
  ∀T,aj T->(if k=k/\T=t then U (AO.list xs) else A.o k T)=U (.list (g (M.aH f t l T))):=λT n=>by
 by_cases c:T=t;·subst c;(refine Z (if_pos ⟨rfl,rfl⟩) ?_;(rw[M.aP];exact Z e rfl))
 ·exact Z (if_neg λq=>c q.2) (Z (M.aI _ _ c) (h T n))
noncomputable def Hs.j'(M:Hs)(f:Int->Int):Hs:={M with Y:=f}
noncomputable def Hs.sJ(M:Hs)(f:Int->Int):Hs:={M with val:=f}
noncomputable def Hs.BE(M:Hs)(f:ai.M.Up):Hs:={M with up:=f}
noncomputable def Hs.hG(M:Hs)(f:List Int->Option Int):Hs:={M with bt:=f}
noncomputable def Hs.zH(M:Hs)(f:Int->Option (Int×Int)):Hs:={M with aC:=f}
noncomputable def Hs.qh(M:Hs)(f:Int->Option (Option (Int×Int×Int))):Hs:={M with a7:=f}
noncomputable def Hs.eH(M:Hs)(f:List Int):Hs:={M with a4:=f}
noncomputable def Hs.cV(M:Hs)(f:List (Int×Int×Option Int)):Hs:={M with aw:=f}
noncomputable def Hs.bR(M:Hs)(f:List e0):Hs:={M with ak:=f}
noncomputable def Hs.dg(M:Hs)(f:List Nat):Hs:={M with am:=f}
noncomputable def Hs.nZ(M:Hs)(t:Int)(l:List (Int)):Hs:={M with mem:=ai.M.aH M.mem t l}
noncomputable def Hs.gM(M:Hs)(t:Int)(l:List (Int)):Hs:={M with aM:=ai.M.aH M.aM t l}
noncomputable def Hs.hv(M:Hs)(t:Int)(l:List (Int×Int×Int)):Hs:={M with bl:=ai.M.aH M.bl t l}
noncomputable def Hs.mo(M:Hs)(t:Int)(l:List (Int)):Hs:={M with bK:=ai.M.aH M.bK t l}
noncomputable def Hs.d8(M:Hs)(c:Option (List Int))(k:Nat):Hs:={M with aU:=c,j2:=k}
theorem ah.Dh(H:ah A M){g:Int->Option V}{f:Int->Int}(e:g=hZ f):ah (A.set 1 0 (.dI ar g)) (M.j' f):=
 {H with Y:=(by refine Z e ?_;rfl)}
theorem ah.Al(H:ah A M){g:Int->Option V}{f:Int->Int}(e:g=hZ f):ah (A.set 4 0 (.dI ar g)) (M.sJ f):=
 {H with val:=(by refine Z e ?_;rfl)}
theorem ah.wZ(H:ah A M){g:Int->Option V}{f:ai.M.Up}(e:g=λt=>(f t).map gU):ah (A.set 7 0 (.dI ar g)) (M.BE f):=
 {H with up:=(by refine Z e ?_;rfl)}
theorem ah.lr(H:ah A M){g:List Int->Option V}{f:List Int->Option Int}(e:g=λt=>(f t).map V.int):ah (A.set 8 0 (.dP iQ g)) (M.hG f):=
 {H with bt:=(by refine Z e ?_;rfl)}
theorem ah.An(H:ah A M){g:Int->Option V}{f:Int->Option (Int×Int)}(e:g=λt=>(f t).map b'):ah (A.set 9 0 (.dI fw g)) (M.zH f):=
 {H with aC:=(by refine Z e ?_;rfl)}
theorem ah.rp(H:ah A M){g:Int->Option V}{f:Int->Option (Option (Int×Int×Int))}(e:g=λt=>(f t).map fb):ah (A.set 10 0 (.dI fw g)) (M.qh f):=
 {H with a7:=(by refine Z e ?_;rfl)}
theorem ah.B7(H:ah A M){xs:List V}{l:List Int}(e:xs=ae l):ah (A.set 11 0 (.list xs)) (M.eH l):=
 {H with a4:=(by refine Z e ?_;rfl)}
theorem ah.sE(H:ah A M){xs:List V}{l:List (Int×Int×Option Int)}(e:xs=l.map lC):ah (A.set 12 0 (.list xs)) (M.cV l):=
 {H with aw:=(by refine Z e ?_;rfl)}
theorem ah.c9(H:ah A M){xs:List V}{l:List e0}(e:xs=l.map e0.v):ah (A.set 13 0 (.list xs)) (M.bR l):=
 {H with ak:=(by refine Z e ?_;rfl)}
theorem ah.Ax(H:ah A M){xs:List V}{l:List Nat}(e:xs=l.map λ(n:Nat)=>V.int n):ah (A.set 14 0 (.list xs)) (M.dg l):=
 {H with am:=(by refine Z e ?_;rfl)}
theorem ah.ET(H:ah A M){xs:List V}{t:Int}{l:List (Int)}(e:xs=ae l):ah (A.set 21 t (.list xs)) (M.nZ t l):=
 {H with fp:=l0 H.fp e}
theorem ah.q'(H:ah A M){xs:List V}{t:Int}{l:List (Int)}(e:xs=ae l):ah (A.set 22 t (.list xs)) (M.gM t l):=
 {H with c8:=l0 H.c8 e}
theorem ah.nY(H:ah A M){xs:List V}{t:Int}{l:List (Int×Int×Int)}(e:xs=NK ii l):ah (A.set 23 t (.list xs)) (M.hv t l):=
 {H with ec:=l0 H.ec e}
theorem ah.u2(H:ah A M){xs:List V}{t:Int}{l:List (Int)}(e:xs=ae l):ah (A.set 24 t (.list xs)) (M.mo t l):=
 {H with fW:=l0 H.fW e}
theorem ah.F2(H:ah A M){c:Option (List Int)}{k:Nat}(e:∀l,c=U l->l.length<=aN):ah (A.set 30 0 (.dS (bC A (M.d8 c k)))) (M.d8 c k):=
 {H with cl:=e,self:=rfl}
theorem ah.CP(H:ah A M){n:Nat}{xs:List V}{l:List Int}(e:xs=ae l):ah ((A.new 11 0 n (.list xs)).set 30 0 (.dS (bC (A.new 11 0 n (.list xs)) (M.eH l)))) (M.eH l):=
 {H with self:=rfl,a4:=(by refine Z e ?_;rfl)}
theorem ah.m2(H:ah A M){n:Nat}{xs:List V}{l:List (Int×Int×Option Int)}(e:xs=l.map lC):ah ((A.new 12 0 n (.list xs)).set 30 0 (.dS (bC (A.new 12 0 n (.list xs)) (M.cV l)))) (M.cV l):=
 {H with self:=rfl,aw:=(by refine Z e ?_;rfl)}
theorem ah.By(H:ah A M){n:Nat}{xs:List V}{l:List Nat}(e:xs=l.map λ(n:Nat)=>V.int n):ah ((A.new 14 0 n (.list xs)).set 30 0 (.dS (bC (A.new 14 0 n (.list xs)) (M.dg l)))) (M.dg l):=
 {H with self:=rfl,am:=(by refine Z e ?_;rfl)}
theorem ah.Ec(H:ah A M){n:Nat}{xs:List V}{t:Int}{l:List (Int)}{g:Int->Option V}(e:xs=ae l)(E:g=jD (A.new 21 t n (.list xs)) 21):ah ((A.new 21 t n (.list xs)).set 2 0 (.dI ar g)) (M.nZ t l):=
 {H with mem:=(by refine Z E ?_;rfl),fp:=l0 H.fp e}
theorem ah.C8(H:ah A M){n:Nat}{xs:List V}{t:Int}{l:List (Int)}{g:Int->Option V}(e:xs=ae l)(E:g=jD (A.new 22 t n (.list xs)) 22):ah ((A.new 22 t n (.list xs)).set 3 0 (.dI ar g)) (M.gM t l):=
 {H with aM:=(by refine Z E ?_;rfl),c8:=l0 H.c8 e}
theorem ah.Eo(H:ah A M){n:Nat}{xs:List V}{t:Int}{l:List (Int×Int×Int)}{g:Int->Option V}(e:xs=NK ii l)(E:g=jD (A.new 23 t n (.list xs)) 23):ah ((A.new 23 t n (.list xs)).set 5 0 (.dI ar g)) (M.hv t l):=
 {H with bl:=(by refine Z E ?_;rfl),ec:=l0 H.ec e}
theorem ah.EN(H:ah A M){n:Nat}{xs:List V}{t:Int}{l:List (Int)}{g:Int->Option V}(e:xs=ae l)(E:g=jD (A.new 24 t n (.list xs)) 24):ah ((A.new 24 t n (.list xs)).set 6 0 (.dI ar g)) (M.mo t l):=
 {H with bK:=(by refine Z E ?_;rfl),fW:=l0 H.fW e}
def Fr(p:Nat->Bool)(A a:AH):Prop:=∀k t,p k=true->a.o k t=A.o k t/\a.st k t=A.st k t/\a.vr k t=A.vr k t
variable {A A':AH} {M:Hs}
section
variable {p:Nat->Bool} {Ux:AH}
theorem Fr.refl:Fr p A A:=λ_ _ _=>⟨rfl,rfl,rfl⟩
theorem Fr.trans(a:Fr p A A')(b:Fr p A' Ux):Fr p A Ux:=λk t e=>⟨(b k t e).1.trans (a k t e).1,(b k t e).2.1.trans (a k t e).2.1,(b k t e).2.2.trans (a k t e).2.2⟩
theorem Fr.bT{q:Nat->Bool}(a:Fr p A A')(s:∀k,q k=true->p k=true):Fr q A A':=λk t e=>a k t (s k e)
theorem Fr.set{k:Nat}{t:Int}{x:AO}(e:p k=false):Fr p A (A.set k t x):=λK T E=>by
 have:¬(K=k/\T=t):=λq=>by replace E:=e▸q.1▸E;exact aK E
 exact⟨if_neg this,rfl,if_neg this⟩
theorem Fr.new{k n:Nat}{t:Int}{x:AO}(e:p k=false):Fr p A (A.new k t n x):=λK T E=>by
 have:¬(K=k/\T=t):=λq=>by replace E:=e▸q.1▸E;exact aK E
 exact⟨if_neg this,if_neg this,if_neg this⟩
noncomputable def pX(k:Nat):Bool:=LS k 15||LS 20 k
noncomputable def pL(k:Nat):Bool:=LS 30 k||(LS 24 k&&LS k 30)
theorem qe(k:Nat)(h:pL k=true):pX k=true:=by unfold pL pX at*;simp only[MA,LL,Nc] at*;omega
noncomputable def pH(k:Nat):Bool:=LS k 15||((LS 20 k&&LS k 25)||(LS 29 k&&LS k 40))
theorem DC(k:Nat)(h:pH k=true):pX k=true:=by unfold pH at h;unfold pX;simp only[MA,LL,Nc] at*;lia
theorem DE{p:Nat->Bool}(f:Fr p A A'):A'.st=λk t=>if p k=true then A.st k t else A'.st k t:=funext λk=>funext λt=>by
 by_cases c:p k=true;·exact(f k t c).2.1.trans (if_pos c).symm
 ·exact(if_neg c).symm
theorem v4(f:Fr pH A A'):bC A' M=bC A M:=by have q:=congrArg (λs=>bC ⟨s,A.o,A.vr,A.nn⟩ M) (DE f);exact q
theorem iM(f:Fr pH A A')(q:pH k=true):jD A' k=jD A k:=by have e:∀t,A'.R k t=A.R k t:=λt=>congrArg (cq.mk k t) (f k t q).2.1;funext t;unfold jD;exact Z (e _) rfl
theorem sz(f:Fr pH A A'):dA A'=dA A:=by have q:=congrArg (λs=>dA ⟨s,A.o,A.vr,A.nn⟩) (DE f);exact q
theorem ah.r3(H:ah A M)(f:Fr pH A A'):ah A' M:=by
 have o:∀k t,pH k=true->A'.o k t=A.o k t:=λk t q=>(f k t q).1;exact⟨H.cl,(f 30 0 rfl).2.1.trans H.sn,(f 31 0 rfl).2.1.trans H.bn,(o 30 0 rfl).trans (H.self.trans (Z (v4 f) rfl)),(o 1 0 rfl).trans H.Y,(o 2 0 rfl).trans (H.mem.trans (Z (iM f rfl) rfl)),(o 3 0 rfl).trans (H.aM.trans (Z (iM f rfl) rfl)),
  (o 4 0 rfl).trans H.val,(o 5 0 rfl).trans (H.bl.trans (Z (iM f rfl) rfl)),(o 6 0 rfl).trans (H.bK.trans (Z (iM f rfl) rfl)),(o 7 0 rfl).trans H.up,(o 8 0 rfl).trans H.bt,(o 9 0 rfl).trans H.aC,(o 10 0 rfl).trans H.a7,
  (o 11 0 rfl).trans H.a4,(o 12 0 rfl).trans H.aw,(o 13 0 rfl).trans H.ak,(o 14 0 rfl).trans H.am,λt n=>(o 21 t rfl).trans (H.fp t n),λt n=>(o 22 t rfl).trans (H.c8 t n),λt n=>(o 23 t rfl).trans (H.ec t n),
  λt n=>(o 24 t rfl).trans (H.fW t n),(o 31 0 rfl).trans (H.fC.trans (Z (sz f) rfl)),(o 32 0 rfl).trans H.ops,(o 33 0 rfl).trans H.args,(o 35 0 rfl).trans H.bF⟩
theorem ah.fr(H:ah A M)(f:Fr pX A A'):ah A' M:=H.r3 (f.bT DC)
end
open PySem PyProof.Rows
noncomputable abbrev G1:=G0 vF
noncomputable abbrev T1:=Ga bt
noncomputable abbrev Me:V:=.eQ "Congruence" ⟨30,0,sN⟩
noncomputable abbrev Bk:V:=.eQ "Bank" ⟨31,0,bN⟩
theorem pf:G1 ("Congruence"++"."++"are_equal")=U .none:=by kernel_rfl
theorem pg:T1 ("Congruence"++"."++"are_equal")=U eJ:=by kernel_rfl
theorem mu:G1 ("Congruence"++"."++"cause_apart")=U .none:=by kernel_rfl
theorem mz:T1 ("Congruence"++"."++"cause_apart")=U d4:=by kernel_rfl
theorem DM:G1 ("Congruence"++"."++"classes")=U .none:=by kernel_rfl
theorem DO:T1 ("Congruence"++"."++"classes")=U ff:=by kernel_rfl
theorem kH:G1 ("Congruence"++"."++"conflict")=U .none:=by kernel_rfl
theorem ki:T1 ("Congruence"++"."++"conflict")=U eX:=by kernel_rfl
theorem ly:G1 ("Congruence"++"."++"inner")=U .none:=by kernel_rfl
theorem qj:T1 ("Congruence"++"."++"inner")=U gz:=by kernel_rfl
theorem cr:G1 ("Congruence"++"."++"add_term")=U .none:=by kernel_rfl
theorem ku:T1 ("Congruence"++"."++"add_term")=U eT:=by kernel_rfl
theorem yv:G1 ("Congruence"++"."++"enter")=U .none:=by kernel_rfl
theorem xY:T1 ("Congruence"++"."++"enter")=U cb:=by kernel_rfl
theorem ha:G1 ("Congruence"++"."++"signature")=U .none:=by kernel_rfl
theorem ju:T1 ("Congruence"++"."++"signature")=U eK:=by kernel_rfl
theorem lI:G1 ("Congruence"++"."++"look_up")=U .none:=by kernel_rfl
theorem lQ:T1 ("Congruence"++"."++"look_up")=U fj:=by kernel_rfl
theorem xE:G1 ("Congruence"++"."++"merge")=U .none:=by kernel_rfl
theorem yj:T1 ("Congruence"++"."++"merge")=U gu:=by kernel_rfl
theorem jo:G1 ("Congruence"++"."++"close")=U .none:=by kernel_rfl
theorem k8:T1 ("Congruence"++"."++"close")=U eb:=by kernel_rfl
theorem yO:G1 ("Congruence"++"."++"join")=U .none:=by kernel_rfl
theorem zW:T1 ("Congruence"++"."++"join")=U cm:=by kernel_rfl
theorem ga:G1 ("Congruence"++"."++"note_clash")=U .none:=by kernel_rfl
theorem n1:T1 ("Congruence"++"."++"note_clash")=U ek:=by kernel_rfl
theorem tf:G1 ("Congruence"++"."++"lengths")=U .none:=by kernel_rfl
theorem tO:T1 ("Congruence"++"."++"lengths")=U fu:=by kernel_rfl
theorem rs:G1 ("Congruence"++"."++"take_off")=U .none:=by kernel_rfl
theorem rK:T1 ("Congruence"++"."++"take_off")=U eW:=by kernel_rfl
theorem sU:G1 ("Congruence"++"."++"torn")=U .none:=by kernel_rfl
theorem zN:T1 ("Congruence"++"."++"torn")=U gK:=by kernel_rfl
theorem fE:G1 ("Congruence"++"."++"with_reason")=U .none:=by kernel_rfl
theorem mr:T1 ("Congruence"++"."++"with_reason")=U dY:=by kernel_rfl
theorem zi:G1 ("Congruence"++"."++"hang")=U .none:=by kernel_rfl
theorem As:T1 ("Congruence"++"."++"hang")=U gP:=by kernel_rfl
theorem sa:G1 ("Congruence"++"."++"turn")=U .none:=by kernel_rfl
theorem z2:T1 ("Congruence"++"."++"turn")=U bP:=by kernel_rfl
theorem km:G1 ("Congruence"++"."++"edges_between")=U .none:=by kernel_rfl
theorem kD:T1 ("Congruence"++"."++"edges_between")=U bp:=by kernel_rfl
theorem dB:G1 ("Congruence"++"."++"explain")=U .none:=by kernel_rfl
theorem tu:T1 ("Congruence"++"."++"explain")=U cK:=by kernel_rfl
theorem qY:G1 ("Congruence"++"."++"separate")=U .none:=by kernel_rfl
theorem j9:T1 ("Congruence"++"."++"separate")=U eU:=by kernel_rfl
theorem jz:G1 ("Congruence"++"."++"parted_by")=U .none:=by kernel_rfl
theorem oZ:T1 ("Congruence"++"."++"parted_by")=U c2:=by kernel_rfl
theorem ks:G1 ("Congruence"++"."++"explain_cause")=U .none:=by kernel_rfl
theorem j4:T1 ("Congruence"++"."++"explain_cause")=U du:=by kernel_rfl
theorem vJ:G1 ("Congruence"++"."++"joined")=U .none:=by kernel_rfl
theorem vU:T1 ("Congruence"++"."++"joined")=U fN:=by kernel_rfl
theorem qG:G1 ("Congruence"++"."++"watch")=U .none:=by kernel_rfl
theorem qL:T1 ("Congruence"++"."++"watch")=U gs:=by kernel_rfl
theorem mw:G1 ("Congruence"++"."++"place_watch")=U .none:=by kernel_rfl
theorem mE:T1 ("Congruence"++"."++"place_watch")=U d3:=by kernel_rfl
theorem iC:G1 ("Congruence"++"."++"tell_class")=U .none:=by kernel_rfl
theorem oG:T1 ("Congruence"++"."++"tell_class")=U eh:=by kernel_rfl
theorem sF:G1 ("Congruence"++"."++"tell")=U .none:=by kernel_rfl
theorem zC:T1 ("Congruence"++"."++"tell")=U gQ:=by kernel_rfl
theorem sA:G1 ("Congruence"++"."++"implied")=U .none:=by kernel_rfl
theorem sj:T1 ("Congruence"++"."++"implied")=U fm:=by kernel_rfl
theorem k5:G1 ("Congruence"++"."++"explain_told")=U .none:=by kernel_rfl
theorem hr:T1 ("Congruence"++"."++"explain_told")=U dR:=by kernel_rfl
theorem nP:G1 ("Congruence"++"."++"push_level")=U .none:=by kernel_rfl
theorem m9:T1 ("Congruence"++"."++"push_level")=U eu:=by kernel_rfl
theorem n':G1 ("Congruence"++"."++"pop_levels")=U .none:=by kernel_rfl
theorem nd:T1 ("Congruence"++"."++"pop_levels")=U cX:=by kernel_rfl
theorem zk:G1 ("Congruence"++"."++"undo")=U .none:=by kernel_rfl
theorem zo:T1 ("Congruence"++"."++"undo")=U gO:=by kernel_rfl
theorem F':G1 ("Congruence"++"."++"leave")=U .none:=by kernel_rfl
theorem Gd:T1 ("Congruence"++"."++"leave")=U gB:=by kernel_rfl
theorem zZ:G1 ("Congruence"++"."++"part")=U .none:=by kernel_rfl
theorem zc:T1 ("Congruence"++"."++"part")=U gW:=by kernel_rfl
theorem Dr:G1 ("Congruence"++"."++"unwatch")=U .none:=by kernel_rfl
theorem Dm:T1 ("Congruence"++"."++"unwatch")=U fh:=by kernel_rfl
theorem yA:G1 ("Bank"++"."++"declare_fun")=U .none:=by kernel_rfl
theorem yD:T1 ("Bank"++"."++"declare_fun")=U ea:=by kernel_rfl
theorem yB:G1 ("Bank"++"."++"fresh_const")=U .none:=by kernel_rfl
theorem yE:T1 ("Bank"++"."++"fresh_const")=U d':=by kernel_rfl
theorem rV:G1 ("Bank"++"."++"op")=U .none:=by kernel_rfl
theorem ut:T1 ("Bank"++"."++"op")=U pP:=by kernel_rfl
theorem gp:G1 ("Bank"++"."++"args")=U .none:=by kernel_rfl
theorem m6:T1 ("Bank"++"."++"args")=U lG:=by kernel_rfl
theorem Hy:G1 ("Bank"++"."++"sort")=U .none:=by kernel_rfl
theorem He:T1 ("Bank"++"."++"sort")=U lU:=by kernel_rfl
theorem tQ:G1 ("Bank"++"."++"data")=U .none:=by kernel_rfl
theorem tM:T1 ("Bank"++"."++"data")=U lR:=by kernel_rfl
theorem gv:G1 ("Bank"++"."++"make")=U .none:=by kernel_rfl
theorem tY:T1 ("Bank"++"."++"make")=U lX:=by kernel_rfl
theorem o':G1 ("Bank"++"."++"true_term")=U .none:=by kernel_rfl
theorem jw:T1 ("Bank"++"."++"true_term")=U hw:=by kernel_rfl
theorem uq:T1 "_law_next"=U oJ:=by kernel_rfl
theorem t9:T1 "_law_terms"=U l8:=by kernel_rfl
theorem rN:T1 "_law_closed"=U c3:=by kernel_rfl
theorem oj:T1 "_law_is_apart"=U iG:=by kernel_rfl
theorem n9:T1 "_law_standing"=U iL:=by kernel_rfl
theorem pv:T1 "_law_clashes"=U jC:=by kernel_rfl
theorem oR:T1 "_law_is_good"=U jG:=by kernel_rfl
theorem sg:T1 "_law_noted"=U gN:=by kernel_rfl
theorem se:T1 "_law_asked"=U eo:=by kernel_rfl
theorem lp:T1 "_law_taken_back"=U bq:=by kernel_rfl
theorem uF:T1 "_law_done"=U m8:=by kernel_rfl
theorem oX:T1 "_law_watched"=U g7:=by kernel_rfl
theorem H5:T1 "law"=U lJ:=by kernel_rfl
noncomputable abbrev cw(n:Nat)(m:String):=a5 G1 T1 n ("Congruence"++"."++m)
noncomputable abbrev bw(n:Nat)(m:String):=a5 G1 T1 n ("Bank"++"."++m)
variable {h:Hp} {Q:PV} {n:Nat}
theorem GJ(R:AR h A)(H:ah A M):h.o ⟨30,0,sN⟩=U (.dS (ai.L1.bC A M)):=by have:=R.dS H.self;rwa[show A.R 30 0=⟨30,0,sN⟩ from congrArg (cq.mk 30 0) H.sn] at this
theorem HP(R:AR h A)(H:ah A M):h.o ⟨31,0,bN⟩=U (.dS (dA A)):=by have:=R.dS H.fC;rwa[show A.R 31 0=⟨31,0,bN⟩ from congrArg (cq.mk 31 0) H.bn] at this
theorem bj{v:V}{P:V->Prop}(R:AR h A)(H:ah A M)(e:bc (ai.L1.bC A M) f=U v)(q:P v):bB (ai.bC h ⟨30,0,sN⟩) (tX f P):=by exact ab (fQ (GJ R H)) (ab e q)
theorem b8{k:Nat}{g:Int->Option V}{i:Int}{v:V}{P:V->Prop}(R:AR h A)(H:ah A M)(e:bc (ai.L1.bC A M) f=U (.ref (A.R k 0)))(E:A.o k 0=U (.dI u g))(G:g i=U v)(q:P v):bB (ai.bC h ⟨30,0,sN⟩) (tX f λc=>bB (lu h c (.int i)) P):=
 bj R H e (cI R E G q)
theorem uY{v:V}{P:V->Prop}(R:AR h A)(H:ah A M)(e:bc (dA A) f=U v)(q:P v):bB (ai.bC h ⟨31,0,bN⟩) (tX f P):=by exact ab (fQ (HP R H)) (ab e q)
theorem bX{P:Prop}(R:AR h A)(H:ah A M)(e:bc (ai.L1.bC A M) m=KT)(g:G1 ("Congruence"++"."++m)=U .none)(q:P):
  (bB (ai.bC h ⟨30,0,sN⟩) (Ge m))/\bB (G1 ("Congruence"++"."++m)) (sH P):=by
 exact⟨ab (fQ (GJ R H)) e,ab g q⟩
theorem pi{P:Prop}(R:AR h A)(H:ah A M)(e:bc (dA A) m=KT)(g:G1 ("Bank"++"."++m)=U .none)(q:P):
  (bB (ai.bC h ⟨31,0,bN⟩) (Ge m))/\bB (G1 ("Bank"++"."++m)) (sH P):=by
 exact⟨ab (fQ (HP R H)) e,ab g q⟩
theorem uu{fs':List (String×V)}{P:Hp->Prop}(R:AR h A)(H:ah A M)(e:bA (ai.L1.bC A M) f v=fs')(q:∀h',AR h' (A.set 30 0 (.dS fs'))->P h'):
  bB (ai.bC h ⟨30,0,sN⟩) (BF ⟨30,0,sN⟩ f v P h):=by
 exact hR ((congrArg (cq.mk 30 0) H.sn:A.R 30 0=⟨30,0,sN⟩)) (gx R H.self (by refine(?_ :17<900);decide) e q)
theorem aS{c:V}(q:Q c h):Ex.wp G1 C (.aE c) a Q h:=q
theorem ax{P:List V->Hp->Prop}(q:P [] h):Ex.bh G1 C [] a P h:=q
theorem zh(q:newList xs Q h):pQ .list [.fl xs] Q h:=q
theorem vY{xs:List V}(l:xs.length<=aN)(q:Q (.aA xs) h):pQ .tuple [.fl xs] Q h:=(⟨l,q⟩:xs.length<=aN/\Q (.aA xs) h)
theorem hA{step:V->List V->(List V->Hp->Prop)->Hp->Prop}{acc:List V}{P:List V->Hp->Prop}(q:P acc h):iter step (n+1) (.bo []) acc P h:=q
theorem x5{step:V->List V->(List V->Hp->Prop)->Hp->Prop}{acc:List V}{P:List V->Hp->Prop}(q:step v acc (λa=>iter step n (.bo l) a P) h):iter step (n+1) (.bo (v::l)) acc P h:=q
theorem rd{f:Int->Int}(h:aj x):hZ f x=U (.int (f x)):=if_pos h
theorem j3(h:aj x):jD A k x=U (.ref (A.R k x)):=if_pos h
theorem kn{f:Int->Int}(h:aj t):ft (hZ f) t (U (.int v))=hZ (ai.M.aH f t v):=by
 funext x;refine(?_ :(if x=t then _ else(if aj x then _ else _))=(if aj x then U (V.int (if x=t then v else f x)) else KT));by_cases c:x=t;·exact Z (if_pos c) (Z (if_pos (Z c h)) (Z (if_pos c) rfl))
 ·exact Z (if_neg c) (Z (if_neg c) rfl)
theorem dz{a:Type}{f:Int->Option a}{e:a->V}(v:Option a):ft (λx=>(f x).map e) t (v.map e)=λx=>(ai.M.aH f t v x).map e:=by
 funext x;refine(?_ :(if x=t then _ else _)=NH e (if x=t then v else f x));by_cases c:x=t;·exact Z (if_pos c) (Z (if_pos c) rfl)
 ·exact Z (if_neg c) (Z (if_neg c) rfl)
theorem e6{a:Type}{f:List Int->Option a}{e:a->V}(v:Option a):ft (λx=>(f x).map e) t (v.map e)=λx=>(ai.M.aH f t v x).map e:=by
 funext x;refine(?_ :(if x=t then _ else _)=NH e (if x=t then v else f x));by_cases c:x=t;·exact Z (if_pos c) (Z (if_pos c) rfl)
 ·exact Z (if_neg c) (Z (if_neg c) rfl)
theorem m7(a b:Int):eqv h (.int a) (.int b)=U (decide (a=b)):=by
 refine(?_ :U (a==b)=_);by_cases c:a=b;·subst c;(exact Z (decide_eq_true rfl) (Z (beq_self_eq_true _) rfl))
 ·exact Z (decide_eq_false c) (Z (beq_eq_false_iff_ne.mpr c) rfl)
theorem JK{a b:Int}{P:Bool->Prop}(q:P (decide (a=b))):bB (gI h .eq (.int a) (.int b)) P:=ab (m7 a b) q
theorem I9{a b:Int}{P:Bool->Prop}(q:P (!decide (a=b))):bB (gI h .ne (.int a) (.int b)) P:=ab (show(eqv h (.int a) (.int b)).map (!·)=U (!decide (a=b)) by rw[m7];rfl) q
theorem bW{P R:Prop}{c:Bool}(e:c=true)(p:P):if c=true then P else R:=Z (if_pos e) p
theorem bH{P R:Prop}{c:Bool}(e:c=false)(p:R):if c=true then P else R:=Z e (Z (if_neg L9) p)
theorem c5(h:aj t):t=3\/t=4\/t=5\/t=6\/t=7\/t=8\/t=9\/t=10\/t=11:=by have M:=λ{a:Int} {l:List Int} (m:t∈a::l)=>KZ.mp m;exact(M (aR h)).imp id λm=>(M m).imp id λm=>(M m).imp id λm=>(M m).imp id λm=>(M m).imp id λm=>(M m).imp id λm=>(M m).imp id λm=>(M m).imp id KU.mp
noncomputable def fK(t:Int):Bool:=t==7||t==8
noncomputable def v1(t:Int):String:=if fK t then "num" else "app"
noncomputable def kX(t:Int):List Int:=(ai.M.arg t).toList
noncomputable def s5(t:Int):V:=if fK t then .aA [.int (t-7),.int 1] else if aj t/\9<=t then .int 0 else .int (t-2)
theorem BP(R:AR h A)(H:ah A M)(T:aj t)(q:Q (.str (v1 t)) h):bw (n+1) "op" [Bk,.int t] Q h:=by
 have e:jr (hW M.ce.length) t=U (.str (v1 t)):=by clear q;rcases c5 T with rfl |rfl |rfl |rfl |rfl |rfl |rfl |rfl |rfl<;>rfl
 exact ab ut ⟨rfl,uY R H rfl (jX R H.ops e ⟨_,_,.refl,q⟩)⟩
theorem jm(R:AR h A)(H:ah A M)(T:aj t)(q:Q (.aA (ae (kX t))) h):bw (n+1) "args" [Bk,.int t] Q h:=by
 have e:jr (ez M.ce) t=U (.aA (ae (kX t))):=by clear q;rcases c5 T with rfl |rfl |rfl |rfl |rfl |rfl |rfl |rfl |rfl<;>rfl
 exact ab m6 ⟨rfl,uY R H rfl (jX R H.args e ⟨_,_,.refl,q⟩)⟩
theorem xO(R:AR h A)(H:ah A M)(T:aj t)(q:Q (s5 t) h):bw (n+1) "data" [Bk,.int t] Q h:=by
 have e:jr (dU M.ce.length) t=U (s5 t):=by clear q;rcases c5 T with rfl |rfl |rfl |rfl |rfl |rfl |rfl |rfl |rfl<;>rfl
 exact ab tM ⟨rfl,uY R H rfl (jX R H.bF e ⟨_,_,.refl,q⟩)⟩
theorem Gc(R:AR h A)(H:ah A M)(q:Q (.int 1) h):bw (n+1) "true_term" [Bk] Q h:=
 ab jw ⟨rfl,uY R H rfl ⟨_,_,.refl,q⟩⟩
theorem yb(R:AR h A)(H:ah A M)(c:aj a)(B:aj b)(q:Q (.bool (decide (M.Y a=M.Y b))) h):cw (n+1) "are_equal" [Me,.int a,.int b] Q h:=
 ab pg ⟨rfl,b8 R H rfl H.Y (rd c) (b8 R H rfl H.Y (rd B) (JK ⟨_,_,.refl,q⟩))⟩
theorem pc(R:AR h A)(H:ah A M)(e:M.aU=KT)(q:Q .none h):cw (n+1) "conflict" [Me] Q h:=by exact ab ki ⟨rfl,bj R H (v:=sp M.aU) rfl (Z e (⟨_,_,.refl,q⟩))⟩
theorem pu(R:AR h A)(H:ah A M){l:List Int}(e:M.aU=U l)(q:Q (.fl (ae l)) h):cw (n+1) "conflict" [Me] Q h:=by refine ab ki ⟨rfl,bj R H (v:=sp M.aU) rfl (Z e (bj R H (v:=sp M.aU) rfl (Z e (ax (zh (bz (xs:=ae l) (by unfold ae;exact Z (KS _) (H.cl l e)) ?_))))))⟩;exact⟨_,_,.refl,q⟩
theorem jV(R:AR h A)(H:ah A M){l:List Int}(b:l.length<=aN)(m:M.am.length<=aN)(q:∀h' A',AR h' A'->ah A' (M.d8 (U l) M.am.length)->Fr pL A A'->Q .none h'):cw (n+1) "note_clash" [Me,.fl (ae l)] Q h:=by
 have c:∀L,U l=U L->L.length<=aN:=λL e=>by(replace e:=KP e;subst e);exact b
 refine ab n1 ⟨rfl,uu R H (fs':=ai.L1.bC A (M.d8 (U l) M.j2)) rfl λf r=>?_⟩;have a:=H.F2 (c:=U l) (k:=M.j2) c;refine bj r a rfl (cD r a.am ⟨by refine Z (KS _) ?_;exact m,uu r a (fs':=ai.L1.bC A (M.d8 (U l) M.am.length)) ?_ λg d=>q _ _ d (a.F2 c) (.trans (.set rfl) (.set rfl))⟩);refine Z (KS _) ?_;rfl
theorem Cd(R:AR h A)(H:ah A M)(T:aj t)(b:(M.mem t).length<=aN)(B:(M.aM t).length<=aN)(a:(M.bl t).length<=aN)(b4:(M.bK t).length<=aN)
  (q:Q (.aA [.int (M.mem t).length,.int (M.aM t).length,.int (M.bl t).length,.int (M.bK t).length]) h):cw (n+1) "lengths" [Me,.int t] Q h:=by
 have e:∀l:List Int,(ae l).length=l.length:=λl=>KS _;have E:∀l:List (Int×Int×Int),(NK ii l).length=l.length:=λl=>KS _;refine ab tO ⟨rfl,b8 R H rfl H.mem (j3 T) (cD R (H.fp t T) ⟨by refine Z (e _) ?_;exact b,b8 R H rfl H.aM (j3 T) (cD R (H.c8 t T) ⟨by refine Z (e _) ?_;exact B,b8 R H rfl H.bl (j3 T) (cD R (H.ec t T) ⟨by refine Z (E _) ?_;exact a,
  b8 R H rfl H.bK (j3 T) (cD R (H.fW t T) ⟨by refine Z (e _) ?_;exact b4,(by decide:4<=aN),_,_,.refl,?_⟩)⟩)⟩)⟩)⟩;simp only[e,e,e,E];exact q
theorem gV(R:AR h A)(H:ah A M)(T:aj t)(q:Q (.aA (ae (kX t))) h):cw (n+2) "inner" [Me,.int t] Q h:=by
 refine ab qj ⟨rfl,bj R H rfl (pi R H rfl rV (BP R H T (aS ?_)))⟩;induction c:fK t with
 |true=>
  have e:gI h .eq (.str (v1 t)) (.str "app")=U false:=by unfold v1;refine Z c ?_;rfl
  refine ab e ⟨by decide,_,_,.refl,?_⟩;have:kX t=[]:=by unfold fK at c;clear e;rcases c5 T with rfl |rfl |rfl |rfl |rfl |rfl |rfl |rfl |rfl<;>first |rfl |(exact absurd c (by decide))
  replace q:=this▸q;exact q
 |false=>
  have e:gI h .eq (.str (v1 t)) (.str "app")=U true:=by unfold v1;refine Z c ?_;rfl
  exact ab e (bj R H rfl (pi R H rfl gp (jm R H T ⟨_,_,.refl,q⟩)))
theorem f0{u:Int}(e:ai.M.arg t=U u):(t=9/\u=3)\/(t=10/\u=4)\/(t=11/\u=5):=by
 unfold ai.M.arg at e;split at e;·obtain rfl:=KP e;exact .inl ⟨‹_›,rfl⟩
 ·split at e
  ·obtain rfl:=KP e;exact .inr (.inl ⟨‹_›,rfl⟩)
  ·split at e
   ·obtain rfl:=KP e;exact .inr (.inr ⟨‹_›,rfl⟩)
   ·exact al e
theorem aZ{u:Int}(e:ai.M.arg t=U u):aj t/\aj u:=by rcases f0 e with⟨rfl,rfl⟩ |⟨rfl,rfl⟩ |⟨rfl,rfl⟩<;>exact⟨by decide,by decide⟩
theorem ub{u:Int}(e:ai.M.arg t=U u):s5 t=.int 0:=by rcases f0 e with⟨rfl,rfl⟩ |⟨rfl,rfl⟩ |⟨rfl,rfl⟩<;>rfl
theorem iO{u:Int}(e:ai.M.arg t=U u):kX t=[u]:=by unfold kX;refine Z e ?_;rfl
noncomputable def eR(M:Hs)(u:Int):List Int:=[0,M.Y u]
theorem qi(R:AR h A)(H:ah A M){u:Int}(e:ai.M.arg t=U u)(q:Q (.aA (ae (eR M u))) h):cw (n+2) "signature" [Me,.int t] Q h:=by refine ay (aZ e) λT b=>ab ju ⟨rfl,bj R H rfl (pi R H rfl tQ (xO R H T (Z (ub e) ⟨by decide,bj R H rfl (pi R H rfl gp (jm R H T (Z (iO e) (ab (a:=.bo [.int u]) rfl ⟨2,b8 R H rfl H.Y (rd b) ⟨by decide,hA (bz (by refine(?_ :1<=aN);decide) (ax (vY (by refine(?_ :1<=aN);decide) ?_)))⟩⟩))))⟩)))⟩;exact⟨(λq=>nomatch q),(λq=>nomatch q),(by decide:2<=aN),_,_,.refl,q⟩
inductive RI{a:Type}(enc:a->V)(R:List a)(B:List a->List a->Prop)(f:Option V->Option V->Option V->aV)(H:Hp)(l:List V)(c:aV)(h:Hp):Prop
 |mk (P p:List a) (x y z:Option V) (E:h=H) (L:l=p.map enc) (e:R=P++p) (b:B P p) (d9:c=f x y z)
section
variable {α:Type} {enc:α->V} {t:V->aV->(aV->Hp->Prop)->Hp->Prop} {b:aV->PS->Hp->Prop} {Q:PS} {r:cq} {L:List α} {x y z:Option V}
theorem RI.GM{B:List α->List α->Prop}{f:Option V->Option V->Option V->aV}{l:List V}{a:aV}(I:RI enc L B f h l a h')(same:h.o r=U (.list xs)):h'.o r=U (.list xs):=by obtain⟨d,D,x,y,z,E,b,e,H,d9⟩:=I;exact Z E same
theorem RI.go{B:List α->List α->Prop}{f:Option V->Option V->Option V->aV}(step:∀D p d x y z (K:aV->Hp->Prop),L=D++p::d->B D (p::d)->(∀x y z,B (D++[p]) d->K (f x y z) h)->t (enc p) (f x y z) (n6 b (Fl.seq K Q)) h)
  (v:V)(l:List V)(a:aV)(h':Hp)(K:aV->Hp->Prop)(I:RI enc L B f h (v::l) a h')(k:∀a h',RI enc L B f h l a h'->K a h'):t v a (n6 b (Fl.seq K Q)) h':=by
 obtain⟨D,d,x,y,z,c,E,e,H,d9⟩:=I;subst c d9;cases d with
 |nil=>exact(nomatch E)
 |cons p d=>obtain⟨rfl,rfl⟩:=LR E;exact step D p d x y z K e H λx y z H=>k _ _ ⟨D++[p],d,x,y,z,rfl,rfl,e.trans (RT D p d),H,rfl⟩
theorem RI.cU{B:List α->List α->Prop}{f:Option V->Option V->Option V->aV}(cU:∀x y z,B L []->Q .next (f x y z) h)(a:aV)(h':Hp)(I:RI enc L B f h [] a h'):Q .next a h':=by
 obtain⟨d,D,x,y,z,E,l,e,H,d9⟩:=I;subst E d9;induction D using LP with
 |cons=>exact(nomatch l)
 |nil=>exact cU x y z (e.trans (Lk d)▸H)
theorem p'(B:List α->List α->Prop)(f:Option V->Option V->Option V->aV)(same:h.o r=U (.list (L.map enc)))(step:∀d p D x y z (K:aV->Hp->Prop),L=d++p::D->B d (p::D)->(∀x y z,B (d++[p]) D->K (f x y z) h)->t (enc p) (f x y z) (n6 b (Fl.seq K Q)) h)
  (cU:∀x y z,B L []->Q .next (f x y z) h)(i:B [] L):∃n,dr t b n (.c0 r 0) (f x y z) Q h:=
 iN (RI enc L B f h) (λl a h' I=>I.GM same) (λv l a h' K _=>RI.go step v l a h' K) (RI.cU cU) ⟨[],L,x,y,z,rfl,rfl,rfl,i,rfl⟩
theorem sv(B:List α->List α->Prop)(f:Option V->Option V->Option V->aV)(step:∀d p D x y z (K:aV->Hp->Prop),L=d++p::D->B d (p::D)->(∀x y z,B (d++[p]) D->K (f x y z) h)->t (enc p) (f x y z) (n6 b (Fl.seq K Q)) h)
  (cU:∀x y z,B L []->Q .next (f x y z) h)(i:B [] L):∃n,dr t b n (.bo (L.map enc)) (f x y z) Q h:=
 iz (RI enc L B f h) (RI.go step) (RI.cU cU) _ ⟨[],L,x,y,z,rfl,rfl,rfl,i,rfl⟩
end
theorem ints_of:∀l:List Int,iq (ae l)=U l
 |[]=>rfl
 |i::r=>by refine((Z (ints_of r) ?_):(iq (ae r)).map _=_);rfl
theorem bb(l:List Int):(ae l).length=l.length:=KS _
theorem hK(l:List Int)(r:Int):kx (ae l) (.int r)=U (decide (r∈l)):=by
 have b:(ae l).all (V.hi 7)=true:=by simp only[L6];intro x h;refine aD (LG.mp h) λi _ E=>?_;clear h;subst E;rfl
 have c:((ae l).any λy=>y.same (.int r))=decide (r∈l):=by
  rw[P5,RU,decide_eq_true_iff];constructor
  ·rintro q;refine aD q λx h e=>?_
   refine aD (LG.mp h) λi H a=>?_;clear h;subst a;have:(i==r)=true:=e;simp only[beq_iff_eq] at this;exact this▸H
  ·intro R
   exact⟨.int r,LG.mpr ⟨r,R,rfl⟩,(beq_self_eq_true r:(r==r)=true)⟩
 unfold kx;refine Z b (Z c ?_);rfl
theorem iu(l:List Int):(cE l).length=l.length:=by
 have r6:∀(a:Int) (l:List Int),(jU (λa b=>decide (a<=b)) a l).length=l.length+1:=by
  intro a l;induction l with
  |nil=>rfl
  |cons b r i=>
   refine(?_ :(if decide (a<=b)=true then a::b::r else b::jU _ a r).length=_);split;·rfl
   ·refine Z LK (Z i ?_);rfl
 induction l with
 |nil=>rfl
 |cons a r i=>exact(r6 a _).trans (congrArg (·+1) i)
theorem hj{l:List Int}(H:l.length<64)(q:Q (.fl (ae (cE l))) h):pQ .sorted [.fl (ae l)] Q h:=by refine(⟨by refine Z (bb _) ?_;exact H,ab (ints_of l) (bz ?_ q)⟩:(ae l).length<64/\bB (iq (ae l)) λl=>newList (ae (cE l)) Q h);exact Z (bb _) (Z (iu _) (KQ (LJ H) (by decide)))
theorem AZ{a b:List V}(L:a.length<=aN)(c:b.length<=aN)(l:(a++b).length<=aN)(q:Q (.fl (a++b)) h):sQ .add (.fl a) (.fl b) Q h:=(⟨L,c,bz l q⟩:a.length<=aN/\b.length<=aN/\newList (a++b) Q h)
theorem fB(a b:List Int):ae a++ae b=ae (a++b):=Lm.symm
theorem kl{a b:Int}{P R:Prop}(e:a=b)(p:P):if V.same (.int a) (.int b)=true then P else R:=bW ((beq_iff_eq.mpr e:(a==b)=true)) p
theorem js{a b:Int}{P R:Prop}(e:a≠b)(p:R):if V.same (.int a) (.int b)=true then P else R:=bH ((beq_eq_false_iff_ne.mpr e:(a==b)=false)) p
theorem my{a b:Int}{P R:Prop}(e:a≠b)(p:P):if(!V.same (.int a) (.int b))=true then P else R:=bW (show(!(a==b))=true by rw[beq_eq_false_iff_ne.mpr e];rfl) p
theorem po{a b:Int}{P R:Prop}(e:a=b)(p:R):if(!V.same (.int a) (.int b))=true then P else R:=bH (show(!(a==b))=false by rw[beq_iff_eq.mpr e];rfl) p
noncomputable def eA(l:List Int)(r:Int):List Int:=if r=0\/r∈l then l else cE (l++[r])
theorem i1{l:List Int}(H:l.length<63)(q:Q (.fl (ae (eA l r))) h):cw (n+1) "with_reason" [Me,.fl (ae l),.int r] Q h:=by
 refine ab mr ⟨rfl,?_⟩;by_cases c:r=0
 ·refine kl (a:=r) (b:=0) c ⟨_,_,.refl,?_⟩
  have:eA l r=l:=if_pos (.inl c);replace q:=this▸q;exact q
 ·refine js (a:=r) (b:=0) c (ab (hK l r) ?_)
  by_cases d:r∈l
  ·refine bW (decide_eq_true d) ⟨_,_,.refl,?_⟩
   have:eA l r=l:=if_pos (.inr d);replace q:=this▸q;exact q
  ·refine bH (decide_eq_false d) ?_
   have:eA l r=cE (l++[r]):=if_neg (by rintro(e |e);exact c e;exact d e);replace q:=this▸q;refine bz (xs:=[V.int r]) (by refine(?_ :1<=aN);decide) ?_;have C:(ae l).length<=aN:=Z (bb _) (KQ (LJ H) (by decide));have f:(ae l++[V.int r]).length<=aN:=by(refine Z KW (Z (bb _) ?_));exact KQ (Ox H) (by decide)
   refine AZ C (by refine(?_ :1<=aN);decide) f (ax ?_);exact Z ((fB l [r]:ae l++[V.int r]=ae (l++[r]))) (hj (Z KW (PZ H)) ⟨_,_,.refl,q⟩)
noncomputable def gq(a b:List Int):List Int:=cE (a++b.filter λr=>decide (r∉a))
theorem qK{step:V->List V->(List V->Hp->Prop)->Hp->Prop}{p:Int->Bool}{P:List V->Hp->Prop}{l:List Int}(H:l.length<=aN)
  (s:∀i∈l,∀acc (K:List V->Hp->Prop),acc.length<aN->K (acc++(if p i=true then U (V.int i) else KT).toList) h->step (.int i) acc K h)(q:P (ae (l.filter p)) h):iter step ((ae l).length+1) (.bo (ae l)) [] P h:=by
 refine Ag (f:=λv=>match v with |.int i=>if p i=true then U (V.int i) else KT |_=>KT) (ae l) [] (by refine Z (bb _) ?_;simpa using H) (λv b acc K A k=>?_) ?_
 ·refine aD (LG.mp b) λi d e=>?_;clear b;subst e
  exact s i d acc K A k
 ·have:(ae l).filterMap (λv=>match v with |.int i=>if p i=true then U (V.int i) else KT |_=>KT)=ae (l.filter p):=by
   clear s q H;induction l with
   |nil=>rfl
   |cons a r I=>
    refine(?_ :NW _ (V.int a::ae r)=_);refine Z Lu (Z MV ?_);dsimp only;by_cases c:p a=true;·exact Z (if_pos c) (Z (if_pos c) (congrArg (V.int a::·) I))
    ·exact Z (if_neg c) (Z (if_neg c) I)
  exact Z (OS _) (Z this q)
theorem rJ{a b:List Int}(H:a.length+b.length<64)(q:Q (.fl (ae (gq a b))) h):cw (n+1) "joined" [Me,.fl (ae a),.fl (ae b)] Q h:=by
 have c:(64:Nat)<=aN:=by decide
 have f:(b.filter λr=>decide (r∉a)).length<=b.length:=Nj _ _;refine ab vU ⟨rfl,⟨_,qK (p:=λr=>decide (r∉a)) (l:=b) (bM (io _ _ _) 0x7813113179404134048 rfl H c) (λi I acc K A k=>?_) ?_⟩⟩
 ·refine ab (show(kx (ae a) (.int i)).map (!·)=U (!decide (i∈a)) by rw[hK];rfl) ?_
  by_cases d:i∈a
  ·rw[if_neg (by simp[d])] at k
   refine bH (by refine Z (decide_eq_true d) ?_;rfl) ?_;simpa using k
  ·rw[if_pos (by simp[d])] at k
   refine bW (by refine Z (decide_eq_false d) ?_;rfl) ⟨A,k⟩
 ·exact bz (Z (bb _) (bM (lN _ _ _ _) 0x78131131a9404134048137a rfl H c f)) (AZ (Z (bb _) (bM (io _ _ _) 0x7813113197404134048 rfl H c)) (Z (bb _) (bM (lN _ _ _ _) 0x78131131a9404134048137a rfl H c f)) (by simp only[KW,bb,bb];exact bM (lN _ _ _ _) 0x1879131131a7404134049138a rfl H c f) (ax (Z (fB _ _) (hj (by rw[KW];exact bM (io _ _ _) 0x113187404131131974041389 rfl H f) ⟨_,_,.refl,q⟩))))
theorem aX{a:Nat}(e:Tf (a+1) b=true):a<b:=Mq e
theorem cW{k:Nat}(R:AR h A)(e:A.o k t=U (.list xs)):It.start h (.ref (A.R k t))=U (.c0 (A.R k t) 0):=m0 (R.ip e)
theorem ic{k:Nat}{v:V}(R:AR h A)(e:A.o k t=U (.list xs))(l:xs.length<aN)(q:∀h',AR h' (A.set k t (.list (xs++[v])))->Q .none h'):
  bB (kindOf h (.ref (A.R k t))) λb=>uB b "append"=true/\(kindOf h (.ref (A.R k t))=U b/\ih h (.ref (A.R k t)) "append" [v] Q):=
 ab (aq R e) ⟨rfl,aq R e,bJ R e l q⟩
theorem a1{a:aV}{i:Nat}{v:V}{P:List V->Hp->Prop}(e:(a[i]?).join=U v)(q:P [v] h):Ex.bh G1 C [.var i] a P h:=ab e q
def tc(M:Hs)(dZ o:Int)(c:Int×Int×Int):Prop:=M.Y c.1=dZ/\M.Y c.2.1=o/\(c∈M.bl dZ\/(c.2.1,c.1,c.2.2)∈M.bl dZ)
noncomputable def J5:List St:=match c2.body with
 |.for _ _ b::_=>b
 |_=>[]
noncomputable def zG(dZ o:Int)(x y z:Option V):aV:=[U Me,U (.int dZ),U (.int o),x,y,z]
theorem EE{P:PS}(R:AR h A)(H:ah A M){dZ o z:Int}(nx:aj x)(N:aj y)
  (Q:M.Y x=o->M.Y y=dZ->∀a,P (.ret (ii (y,x,z))) a h)(q:P .next (zG dZ o (U (.int x)) (U (.int y)) (U (.int z))) h):
  St.bh G1 (a5 G1 T1 n) (J5.drop 1) (zG dZ o (U (.int x)) (U (.int y)) (U (.int z))) P h:=by
 refine b8 R H rfl H.Y (rd nx) ?_;by_cases c:M.Y x=o
 ·refine kl c (b8 R H rfl H.Y (rd N) ?_)
  by_cases C:M.Y y=dZ;·exact kl C ⟨(by decide:3<=aN),Q c C _⟩
  ·exact js C q
 ·exact js c q
theorem E3{P:PS}(R:AR h A)(H:ah A M){dZ o z:Int}(nx:aj x)(N:aj y)(Q:M.Y x=dZ->M.Y y=o->∀a,P (.ret (ii (x,y,z))) a h)
  (b:M.Y x=o->M.Y y=dZ->∀a,P (.ret (ii (y,x,z))) a h)(q:P .next (zG dZ o (U (.int x)) (U (.int y)) (U (.int z))) h):
  St.bh G1 (a5 G1 T1 n) J5 (zG dZ o (U (.int x)) (U (.int y)) (U (.int z))) P h:=by
 have ui:=EE (n:=n) R H nx N b q;refine b8 R H rfl H.Y (rd nx) ?_;by_cases c:M.Y x=dZ
 ·refine kl c (b8 R H rfl H.Y (rd N) ?_)
  by_cases C:M.Y y=o;·exact kl C ⟨(by decide:3<=aN),Q c C _⟩
  ·exact js C ui
 ·exact js c ui
theorem qd(R:AR h A)(H:ah A M){dZ:Int}(d:aj dZ)(N:∀p∈M.bl dZ,aj p.1/\aj p.2.1)(f:Q .none h)(q:∀c,tc M dZ o c->Q (ii c) h):
  cw (n+1) "parted_by" [Me,.int dZ,.int o] Q h:=by
 refine ab oZ ⟨rfl,b8 R H rfl H.bl (j3 d) (ab (cW R (H.ec dZ d)) (p' (L:=M.bl dZ) (λ_ _=>True) (zG dZ o) (R.ip (H.ec dZ d)) (λD p B x y z K e _ k=>?_) (λx y z _=>⟨_,_,.refl,f⟩) trivial))⟩;have P:p∈M.bl dZ:=Z e (Ld _ KX);exact⟨rfl,aX rfl,aX rfl,aX rfl,E3 (n:=n) (z:=p.2.2) R H (N p P).1 (N p P).2 (λa b g=>⟨_,_,.refl,q p ⟨a,b,.inl P⟩⟩) (λa b g=>⟨_,_,.refl,q (p.2.1,p.1,p.2.2) ⟨b,a,.inr P⟩⟩) (k _ _ _ trivial)⟩
def DG(M:Hs)(a b:Int)(c:Int×Int×Int):Prop:=(c=(M.val (M.Y a),M.val (M.Y b),0)/\M.val (M.Y a)≠0/\M.val (M.Y b)≠0)\/tc M (M.Y a) (M.Y b) c
theorem tW(R:AR h A)(H:ah A M)(g:aj a)(i:aj b)(r:aj (M.Y a))(B:aj (M.Y b))(E:M.Y a≠M.Y b)(N:∀p∈M.bl (M.Y a),aj p.1/\aj p.2.1)(f:Q .none h)(q:∀c,DG M a b c->Q (ii c) h):
  cw (n+2) "cause_apart" [Me,.int a,.int b] Q h:=by
 refine ab mz ⟨rfl,b8 R H rfl H.Y (rd g) (b8 R H rfl H.Y (rd i) ⟨(by decide:2<=aN),rfl,aX rfl,aX rfl,js E (b8 R H rfl H.val (rd r) ?_)⟩)⟩;by_cases C:M.val (M.Y a)=0;·exact po C (bX R H rfl jz (qd R H r N ⟨_,_,.refl,f⟩ λc d=>⟨_,_,.refl,q c (.inr d)⟩))
 ·refine my C (b8 R H rfl H.val (rd B) ?_)
  by_cases e:M.val (M.Y b)=0;·exact po e (bX R H rfl jz (qd R H r N ⟨_,_,.refl,f⟩ λc d=>⟨_,_,.refl,q c (.inr d)⟩))
  ·exact my e (b8 R H rfl H.val (rd r) (b8 R H rfl H.val (rd B) ⟨(by decide:3<=aN),_,_,.refl,q (M.val (M.Y a),M.val (M.Y b),0) (.inl ⟨rfl,C,e⟩)⟩))
theorem bf{b:Type}(l:List b){a:b}:(l++[a]).length=l.length+1:=KW
theorem dc(l:List e0)(e:e0):l.map e0.v++[e.v]=(l++[e]).map e0.v:=by refine Z Lm ?_;rfl
noncomputable def pT(k:Nat):Bool:=!(Ly k 10||(Ly k 11||Ly k 13))
noncomputable def dX(M:Hs)(t:Int)(c:Option (Int×Int×Int)):Hs:=((M.qh (ai.M.aH M.a7 t (U c))).eH (M.a4++[t])).bR (M.ak++[.a7 t])
inductive lA(M:Hs)(t:Int):Hs->Prop
 |vk:lA M t M
 |eq {l r}:M.a7 t=KT->M.aC t=U (l,r)->M.Y l=M.Y r->lA M t (dX M t KT)
 |ne {l r c}:M.a7 t=KT->M.aC t=U (l,r)->M.Y l≠M.Y r->DG M l r c->lA M t (dX M t (U c))
structure mh(M:Hs):Prop where
 Y:∀t,aj t->aj (M.Y t)
 bl:∀t,aj t->∀p∈M.bl t,aj p.1/\aj p.2.1
 aC:∀t p,M.aC t=U p->aj p.1/\aj p.2/\t∈fw
theorem mh.jT{m:Hs}{t:Int}(s:mh M)(T:lA M t m):mh m:=by induction T<;>exact⟨s.Y,s.bl,s.aC⟩
theorem qk{c:Option (Int×Int×Int)}{b:aV}{P:PS}(R:AR h A)(H:ah A (M.qh (ai.M.aH M.a7 t (U c))))(L:M.a4.length<aN)(lt:M.ak.length<aN)
  (q:∀h' A',AR h' A'->ah A' (dX M t c)->Fr pT A A'->P .next (U Me::U (.int t)::b) h'):
  St.bh G1 C [.expr (.az (.ao (.var 0) "news") "append" [.var 1]),.expr (.az (.ao (.var 0) "trail") "append" [.aA [.aE (.str "told"),.var 1]])] (U Me::U (.int t)::b) P h:=by
 refine bj R H rfl (ic R H.a4 (Z (bb _) L) λe r=>?_);have a:=H.B7 (l:=M.a4++[t]) (fB M.a4 [t]);exact bj r a rfl (ab (aq r a.ak) ⟨rfl,(by decide:2<=aN),aq r a.ak,bJ r a.ak (Z (KS _) lt) λf d=>q _ _ d (a.c9 (l:=M.ak++[e0.a7 t]) (dc M.ak (e0.a7 t))) (.trans (.set rfl) (.set rfl))⟩)
theorem jT(R:AR h A)(H:ah A M)(S:mh M){s:Int×Int}(a:M.aC t=U s)(L:M.a4.length<aN)(lt:M.ak.length<aN)(q:∀h' A' m,AR h' A'->ah A' m->lA M t m->Fr pT A A'->Q .none h'):
  cw (n+3) "tell" [Me,.int t] Q h:=by
 obtain⟨l,r⟩:=s;refine cH (S.aC t _ a) λN b T=>ab zC ⟨rfl,bj R H rfl (qZ R H.a7 ?_)⟩;induction e:M.a7 t with
 |some c=>exact bW rfl ⟨_,_,.refl,q _ _ _ R H .vk .refl⟩
 |none=>
  refine bH rfl (b8 R H rfl H.aC (v:=b' (l,r)) (by refine Z a ?_;rfl) (vV rfl (aX rfl) (aX rfl) (bX R H rfl pf (yb R H N b ?_))));by_cases c:M.Y l=M.Y r;·exact bW (decide_eq_true c) ⟨(by decide:2<=aN),bj R H rfl (cF R H.a7 T λi d=>qk (c:=KT) d (H.rp (dz (U KT))) L lt λj o f g F=>q _ _ _ f g (.eq e a c) (.trans (.set rfl) F))⟩
  ·exact bH (decide_eq_false c) (bX R H rfl mu (tW R H N b (S.Y _ N) (S.Y _ b) c (S.bl _ (S.Y _ N)) ⟨aX rfl,⟨_,_,.refl,q _ _ _ R H .vk .refl⟩⟩ λk K=>⟨aX rfl,(by decide:2<=aN),bj R H rfl (cF R H.a7 T λi d=>qk (c:=U k) d (H.rp (dz (U (U k)))) L lt λj o f g F=>q _ _ _ f g (.ne e a c K) (.trans (.set rfl) F))⟩))
theorem GI{a b c:Nat}(h:a+(b+1)<=c):a<c:=bM (io _ _ _) 0x11378131113978 rfl h
theorem GA{a A b c:Nat}(h:a+(b+1)<=c)(h':A<=a+1):A+b<=c:=bM (lN _ _ _ _) 0x18791311138a9137113a rfl h h'
inductive iU:Hs->List Int->Hs->Prop
 |nil (N:Hs):iU N [] N
 |cons {N a n:Hs} {t:Int} {l:List Int}:lA N t a->iU a l n->iU N (t::l) n
theorem lA.IG{m:Hs}{t:Int}(T:lA M t m):m.a4.length<=M.a4.length+1/\m.ak.length<=M.ak.length+1/\m.bK=M.bK/\m.aC=M.aC:=by
 induction T with
 |vk=>exact⟨LN _,LN _,rfl,rfl⟩
 |eq=>exact⟨K2 (bf _),K2 (bf _),rfl,rfl⟩
 |ne=>exact⟨K2 (bf _),K2 (bf _),rfl,rfl⟩
inductive Ke(A:AH)(M:Hs)(t:Int)(l:List V)(b:aV)(h:Hp):Prop
 |mk (A':AH) (m:Hs) (x:Option V) (L:List Int) (e:l=ae L) (d9:b=[U Me,U (.int t),x]) (R:AR h A') (H:ah A' m) (S:mh m) (F:Fr pT A A') (w:m.bK=M.bK) (s:m.aC=M.aC) (B:m.a4.length+L.length<=aN) (c:m.ak.length+L.length<=aN)
  (T:∀a,iU m L a->iU M (M.bK t) a)
theorem nU(R:AR h A)(H:ah A M)(S:mh M)(i:aj t)(o:∀w∈M.bK t,∃s,M.aC w=U s)(N:M.a4.length+(M.bK t).length<=aN)(lt:M.ak.length+(M.bK t).length<=aN)
  (q:∀h' A' m,AR h' A'->ah A' m->iU M (M.bK t) m->Fr pT A A'->Q .none h'):cw (n+4) "tell_class" [Me,.int t] Q h:=by
 refine ab oG ⟨rfl,b8 R H rfl H.bK (j3 i) ?_⟩;have W:=H.fW t i;refine ab (cW R W) (iN (xs:=ae (M.bK t)) (Ke A M t) ?_ ?_ ?_ ⟨A,M,KT,M.bK t,rfl,rfl,R,H,S,.refl,rfl,rfl,N,lt,λ_ T=>T⟩)
 ·intro l j h' I
  obtain⟨A',m,x,L,d,d9,r,H',S',F,b,a,B,c,T⟩:=I;have e:A'.R 24 t=A.R 24 t:=congrArg (cq.mk 24 t) (F 24 t rfl).2.1;exact hR e (r.ip ((F 24 t rfl).1.trans W))
 ·intro v l j h' K V I k
  obtain⟨A',m,x,L,d,d9,r,H',S',F,b,a,B,c,T⟩:=I;subst d9;refine aD (LG.mp V) λw p E=>?_;clear V;subst E;cases L with
  |nil=>exact(nomatch d)
  |cons w' L=>
   obtain⟨f,rfl⟩:=LR d
   (injection f with f;subst f)
   simp only[LK] at B c;obtain⟨s,u⟩:=o w p;exact⟨aX rfl,bX r H' rfl sF (a1 rfl (jT r H' S' ((congrFun a w).trans u) (GI B) (GI c) λh1 y z C D T1 G=>fe T1.IG λJ P X Z=>k _ _ ⟨y,z,_,L,rfl,rfl,C,D,S'.jT T1,F.trans G,X.trans b,Z.trans a,GA B J,GA c P,λg T2=>T g (.cons T1 T2)⟩))⟩
 ·intro j h' I
  obtain⟨A',m,x,L,d,d9,r,H',S',F,b,a,B,c,T⟩:=I;clear c B;cases L with
  |cons=>exact(nomatch d)
  |nil=>exact q _ _ _ r H' (T _ (.nil _)) F
theorem a2{a:aV}{i j:Nat}{v w:V}{P:List V->Hp->Prop}(e:(a[i]?).join=U v)(E:(a[j]?).join=U w)(q:P [v,w] h):Ex.bh G1 C [.var i,.var j] a P h:=ab e (ab E q)
theorem a3{a:aV}{i j k:Nat}{v w x:V}{P:List V->Hp->Prop}(e:(a[i]?).join=U v)(b:(a[j]?).join=U w)(E:(a[k]?).join=U x)(q:P [v,w,x] h):Ex.bh G1 C [.var i,.var j,.var k] a P h:=ab e (ab b (ab E q))
theorem uZ(R:AR h A)(H:ah A M)(lt:M.ak.length<=aN)(L:M.am.length<aN)(q:∀h' A',AR h' A'->ah A' (M.dg (M.am++[M.ak.length]))->Fr pL A A'->Q .none h'):cw (n+1) "push_level" [Me] Q h:=by
 refine ab m9 ⟨rfl,bj R H rfl (ab (aq R H.am) ⟨rfl,bj R H rfl (cD R H.ak ⟨by refine Z (KS _) ?_;exact lt,aq R H.am,bJ R H.am (by refine Z (KS _) ?_;exact L) λa r=>?_⟩)⟩)⟩;refine q _ _ r (H.Ax (l:=M.am++[M.ak.length]) ?_) (.set rfl)
 (refine Z Lm (Z (KS _) ?_));rfl
theorem dC(l:List Int):df (.aA (ae l))=U l:=ints_of l
noncomputable def cM(M:Hs)(t u:Int):Hs:=if M.bt (eR M u)=U t then(M.bR (M.ak++[.jK (eR M u) t])).hG (ai.M.aH M.bt (eR M u) KT) else M
theorem kP(R:AR h A)(H:ah A M):kindOf h (.ref (A.R 8 0))=U false:=rj R H.bt
theorem Bw(R:AR h A)(H:ah A M){u:Int}(e:ai.M.arg t=U u)(lt:M.ak.length<aN)(q:∀h' A',AR h' A'->ah A' (cM M t u)->Fr pL A A'->Q .none h'):cw (n+3) "take_off" [Me,.int t] Q h:=by
 refine ab rK ⟨rfl,bX R H rfl ha (a1 rfl (qi R H e ⟨aX rfl,bj R H rfl (ab (kP R H) ⟨rfl,kP R H,Bo R H.bt (dC _) ?_⟩)⟩))⟩;induction c:M.bt (eR M u) with
 |none=>refine q _ _ R ?_ .refl;unfold cM;exact Z (if_neg (by exact Z c λe=>nomatch e)) H
 |some o=>
  by_cases d:o=t
  ·clear e;subst d
   have E:cM M o u=(M.bR (M.ak++[.jK (eR M u) o])).hG (ai.M.aH M.bt (eR M u) KT):=if_pos c;replace q:=E▸q;refine kl (a:=o) (b:=o) rfl (bj R H rfl (ab (aq R H.ak) ⟨rfl,(by decide:3<=aN),aq R H.ak,bJ R H.ak (Z (KS _) lt) λi r=>?_⟩));have f:=H.c9 (l:=M.ak++[e0.jK (eR M u) o]) (dc M.ak (e0.jK (eR M u) o));refine bj r f rfl (yQ r f.bt (dC _) (v:=.int o) (by refine((Z c ?_):(M.bt (eR M u)).map V.int=_);rfl) λj g=>?_);exact q _ _ g (f.lr (e6 KT)) (.trans (.set rfl) (.set rfl))
  ·refine js (a:=o) (b:=t) d (q _ _ R ?_ .refl)
   unfold cM;exact Z (if_neg (by exact Z c λe=>d (KP e))) H
noncomputable def cB(M:Hs)(t u:Int):Hs:=match M.bt (eR M u) with
 |none=>(M.bR (M.ak++[.g3 (eR M u)])).hG (ai.M.aH M.bt (eR M u) (U t))
 |some o=>if M.Y o=M.Y t then M else M.cV (M.aw++[(t,o,KT)])
theorem qU{u:Int}(h:aj (M.Y u)):eR M u∈iQ:=LG.mpr ⟨_,aR h,rfl⟩
theorem Db(R:AR h A)(H:ah A M){u:Int}(e:ai.M.arg t=U u)(N:aj (M.Y u))(T:∀o,M.bt (eR M u)=U o->aj o)(lt:M.ak.length<aN)(L:M.aw.length<aN)(q:∀h' A',AR h' A'->ah A' (cB M t u)->Fr pL A A'->Q .none h'):
  cw (n+3) "look_up" [Me,.int t] Q h:=by
 refine ab lQ ⟨rfl,bX R H rfl ha (a1 rfl (qi R H e ⟨aX rfl,bj R H rfl (ab (kP R H) ⟨rfl,kP R H,Bo R H.bt (dC _) ?_⟩)⟩))⟩;induction c:M.bt (eR M u) with
 |none=>
  have E:cB M t u=(M.bR (M.ak++[.g3 (eR M u)])).hG (ai.M.aH M.bt (eR M u) (U t)):=by unfold cB;exact Z c rfl
  replace q:=E▸q;refine⟨aX rfl,bj R H rfl (ab (aq R H.ak) ⟨rfl,(by decide:3<=aN),aq R H.ak,bJ R H.ak (Z (KS _) lt) λb r=>?_⟩)⟩;have a:=H.c9 (l:=M.ak++[e0.g3 (eR M u)]) (dc M.ak (e0.g3 (eR M u)));exact bj r a rfl (oB r a.bt (dC _) (qU N) λg f=>q _ _ f (a.lr (e6 (U t))) (.trans (.set rfl) (.set rfl)))
 |some o=>
  refine⟨aX rfl,b8 R H rfl H.Y (rd (T o c)) (b8 R H rfl H.Y (rd (aZ e).1) ?_)⟩;by_cases d:M.Y o=M.Y t
  ·have E:cB M t u=M:=by unfold cB;exact Z c (if_pos d)
   replace q:=E▸q;exact po d (q _ _ R H .refl)
  ·have E:cB M t u=M.cV (M.aw++[(t,o,KT)]):=by unfold cB;exact Z c (if_neg d)
   replace q:=E▸q;exact my d (bj R H rfl (ab (aq R H.aw) ⟨rfl,(by decide:3<=aN),aq R H.aw,bJ R H.aw (Z (KS _) L) λb r=>q _ _ r (H.sE (l:=M.aw++[(t,o,KT)]) (by refine Z Lm ?_;rfl)) (.set rfl)⟩))
theorem rW{l:List (Int×Int×Option Int)}{P:Hp->Prop}(R:AR h A)(H:ah A M)(L:(l.map lC).length<=aN)(q:∀h' A',AR h' A'->ah A' (M.cV l)->Fr pL A A'->P h'):
  newList (l.map lC) (λv h=>bB (ai.bC h ⟨30,0,sN⟩) (BF ⟨30,0,sN⟩ "queue" v P h)) h:=by
 exact c6 12 0 R L λn b r=>hR (congrArg (cq.mk 30 0) H.sn:(A.new 12 0 n (.list (l.map lC))).R 30 0=⟨30,0,sN⟩) (gx r (fs:=ai.L1.bC A M) (fs':=ai.L1.bC (A.new 12 0 n (.list (l.map lC))) (M.cV l)) H.self (aX rfl) rfl λc a=>q _ _ a (H.m2 rfl) (.trans (.new rfl) (.set rfl)))
noncomputable def I8(k:Nat):Bool:=!(Ly k 11||Ly k 30)
theorem wB{P:Hp->Prop}(R:AR h A)(H:ah A M)(L:(ae l).length<=aN)(q:∀h' A',AR h' A'->ah A' (M.eH l)->Fr I8 A A'->P h'):
  newList (ae l) (λv h=>bB (ai.bC h ⟨30,0,sN⟩) (BF ⟨30,0,sN⟩ "news" v P h)) h:=by
 exact c6 11 0 R L λn b r=>hR (congrArg (cq.mk 30 0) H.sn:(A.new 11 0 n (.list (ae l))).R 30 0=⟨30,0,sN⟩) (gx r (fs:=ai.L1.bC A M) (fs':=ai.L1.bC (A.new 11 0 n (.list (ae l))) (M.eH l)) H.self (aX rfl) rfl λc a=>q _ _ a (H.CP rfl) (.trans (.new rfl) (.set rfl)))
theorem BS{l:List Nat}{P:Hp->Prop}(R:AR h A)(H:ah A M)(L:(l.map λ(n:Nat)=>V.int n).length<=aN)(q:∀h' A',AR h' A'->ah A' (M.dg l)->Fr pL A A'->P h'):
  newList (l.map λ(n:Nat)=>V.int n) (λv h=>bB (ai.bC h ⟨30,0,sN⟩) (BF ⟨30,0,sN⟩ "marks" v P h)) h:=by
 exact c6 14 0 R L λn b r=>hR (congrArg (cq.mk 30 0) H.sn:(A.new 14 0 n (.list (l.map λ(n:Nat)=>V.int n))).R 30 0=⟨30,0,sN⟩) (gx r (fs:=ai.L1.bC A M) (fs':=ai.L1.bC (A.new 14 0 n (.list (l.map λ(n:Nat)=>V.int n))) (M.dg l)) H.self (aX rfl) rfl λc a=>q _ _ a (H.By rfl) (.trans (.new rfl) (.set rfl)))
theorem qM(R:AR h A)(H:ah A M)(e:M.aw=[])(q:∀h' A',AR h' A'->ah A' M->Fr pL A A'->Q .none h'):cw (n+1) "close" [Me] Q h:=by
 refine ab k8 ⟨rfl,aX rfl,1,bj R H rfl (cD R H.aw ⟨Z e (Lf _),?_⟩)⟩
 ·refine Z e (rW (l:=[]) R H (Lf _) λb c r a F=>q _ _ r ?_ F)
  have:M.cV []=M:=by refine hR e ?_;rfl
  rwa[this] at a
theorem ee(R:AR h A)(H:ah A M)(T:aj t)(e:M.aw=[])(q:∀h' A',AR h' A'->ah A' M->Fr pL A A'->Q .none h'):cw (n+2) "add_term" [Me,.int t] Q h:=by
 refine ab ku ⟨rfl,c6 15 0 (xs:=[.int t]) R (by refine(?_ :1<=aN);decide) λm g r=>⟨aX rfl,2,?_⟩⟩;have c:ah (A.new 15 0 m (.list [.int t])) M:=H.fr (.new rfl);have N:(!(hZ M.Y t).isSome)=false:=by refine Z (rd T) ?_;rfl
 refine cD r (k:=15) (t:=0) rfl ⟨by refine(?_ :1<=aN);decide,jX r (k:=15) (t:=0) (i:= -1) rfl rfl ⟨aX rfl,bz (Lf _) ⟨aX rfl,bj r c rfl (fS r c.Y (bH N ⟨Lf _,?_⟩))⟩⟩⟩;refine ab (aq r (k:=15) (t:=0) rfl) ⟨rfl,aq r (k:=15) (t:=0) rfl,pY (xs:=[]) r (k:=15) (t:=0) rfl (by decide) λj a=>?_⟩;have b:ah ((A.new 15 0 m (.list [.int t])).set 15 0 (.list [])) M:=c.fr (.set rfl);exact bj a b rfl (fS a b.Y (bH N (cD a (k:=15) (t:=0) rfl ⟨Lf _,bX a b rfl jo (qM a b e λl o d f F=>q _ _ d f (.trans (.trans (.new rfl) (.set rfl)) F))⟩)))
end ai.L1
namespace ai.M
abbrev eN:=Int×Int×Option Int
inductive cn(up:Up):Int->List eN->Int->Prop
 |nil {t}:up t=KT->cn up t [] t
 |cons {t p w L r}:up t=U (p,w)->cn up p L r->cn up t ((t,p,w)::L) r
noncomputable def dG:List eN->Up->Up
 |[],u=>u
 |e::L,u=>dG L (aH u e.1 KT)
noncomputable def eO:List eN->Up->Up
 |[],u=>u
 |e::L,u=>eO L (aH u e.2.1 (U (e.1,e.2.2)))
theorem pp(u:Up)(a b:Int):aH (aH u a KT) b KT=aH (aH u b KT) a KT:=by
 by_cases h:a=b;·exact Z h rfl
 ·exact iP _ _ _ h
theorem tJ:∀(L:List eN) (u:Up) (t:Int),dG L (aH u t KT)=aH (dG L u) t KT
 |[],_,_=>rfl
 |e::L,u,t=>by refine(?_ :dG L (aH (aH u t KT) e.1 KT)=aH (dG L (aH u e.1 KT)) t KT);rw[pp,tJ L]
theorem nS:∀(L:List eN) (u:Up) (k:Int) (v),k∉L.map (·.2.1)->eO L (aH u k v)=aH (eO L u) k v
 |[],_,_,_,_=>rfl
 |e::L,u,k,v,h=>by have h:=not_or.mp λq=>h (KZ.mpr q);exact((Z (iP _ _ _ h.1) (Z (nS L _ _ _ h.2) rfl)):eO L (aH (aH u k v) e.2.1 _)=aH (eO L (aH u e.2.1 _)) k v)
set_option tactic.hygienic true in
theorem cn.turn{up:Up}{t r:Int}{L:List eN}(A:ik up)(h:cn up t L r):ev up (t::L.map (·.2.1)) (eO L (dG L up)):=by
 induction h with
 |nil e=>exact .dZ e
 |cons e h i=>
  rename_i t p w L r
  have T:=ev.cons e i
  have n:=Ll.mp (T.hH A)
  have E:eO ((t,p,w)::L) (dG ((t,p,w)::L) up)=aH (aH (eO L (dG L up)) t none) p (U (t,w)):=by
   refine(?_ :eO L (aH (dG L (aH up t none)) p (U (t,w)))=_)
   (exact Z (tJ _ _ _) (Z (nS _ _ _ _ (Ll.mp n.2).1) (Z (nS _ _ _ _ λm=>n.1 (K1 _ m)) rfl)))
  simp only[<-E] at T
  exact T
theorem cn.k9{up:Up}{t r:Int}{L:List eN}(h:cn up t L r):L.map (·.1)++[r]=t::L.map (·.2.1):=by
 induction h with
 |nil=>rfl
 |cons e h i=>exact congrArg (_::·) i
theorem cn.hH{up:Up}{t r:Int}{L:List eN}(A:ik up)(h:cn up t L r):(L.map (·.1)).Nodup:=by have:=(h.turn A).hH A;rw[<-h.k9] at this;exact this.sublist (List.sublist_append_left _ _)
theorem cn.at{up:Up}{t r:Int}{L:List eN}(h:cn up t L r):∀e∈L,up e.1=U e.2:=by
 induction h with
 |nil=>intro e m;cases m
 |cons e h i=>
  intro x m;rcases KZ.mp m with rfl |m
  ·exact e
  ·exact i x m
theorem cn.top{up:Up}{t r:Int}{L:List eN}(h:cn up t L r):up r=none:=by
 induction h with
 |nil e=>exact e
 |cons _ _ i=>exact i
set_option tactic.hygienic true in
theorem cn.exists{up:Up}{t:Int}(f:Fin up t):∃L r,cn up t L r:=by
 induction f with
 |intro h i=>
  rename_i x
  induction e:up x with
  |none=>exact⟨_,_,.nil e⟩
  |some p=>
   obtain⟨y,w⟩:=p
   exact g1 (i y w e) λL r k=>⟨_,_,.cons e k⟩
theorem cn.pI{up:Up}{t r:Int}{L:List eN}(h:cn up t L r):∀x,a6 up t x↔x∈L.map (·.1)\/x=r:=by
 induction h with
 |nil e=>
  intro x;refine⟨λq=>.inr ?_,λq=>q.elim (λq=>nomatch q) λq=>Z q (.refl)⟩;induction q with
  |refl=>rfl
  |step E _=>replace E:=e▸E;cases E
 |cons e h i=>
  intro x;simp only[LC,KZ,or_assoc,<-i x];constructor
  ·intro q
   induction q with
   |refl=>exact .inl rfl
   |step E q=>replace E:=e▸E;obtain⟨rfl,rfl⟩:=LQ (KP E);exact .inr q
  ·rintro(q |q)
   ·exact Z q (.refl)
   ·exact .step e q
theorem oy:∀(L:List eN) (u:Up) (x:Int),x∉L.map (·.1)->dG L u x=u x
 |[],_,_,_=>rfl
 |e::L,u,x,h=>by have h:=not_or.mp λq=>h (KZ.mpr q);exact((Z (oy L _ x h.2) (Z (aI _ _ h.1) rfl)):dG L (aH u e.1 KT) x=u x)
theorem qt:∀(L:List eN) (e:eN) (u:Up),dG (L++[e]) u=aH (dG L u) e.1 KT
 |[],_,_=>rfl
 |x::L,e,u=>qt L e _
theorem qQ:∀(L:List eN) (e:eN) (u:Up),eO (L++[e]) u=aH (eO L u) e.2.1 (U (e.1,e.2.2))
 |[],_,_=>rfl
 |x::L,e,u=>qQ L e _
end ai.M
namespace ai.L1
open ai.M (cn ik dG eO aH)
variable {h:Hp} {A:AH} {M:Hs} {Q:PV} {n:Nat}
noncomputable def G5(k:Nat):Bool:=!(Ly k 15)
noncomputable def p7(k:Nat):Bool:=!(Ly k 7)
theorem wC(k:Nat)(h:pX k=true):G5 k=true:=by
 unfold pX at h;unfold G5;induction e:Ly k 15 with
 |false=>rfl
 |true=>replace h:=(Mc e)▸h;exact h
theorem Gk(k:Nat)(h:pL k=true):p7 k=true:=by
 unfold pL at h;unfold p7;induction e:Ly k 7 with
 |false=>rfl
 |true=>replace h:=(Mc e)▸h;exact h
noncomputable def pl(e:ai.M.eN):V:=.aA [.int e.1,gU e.2]
theorem cL{p:Nat->Bool}(f:Fr p A a){k:Nat}(e:p k=true):a.R k t=A.R k t:=congrArg (cq.mk k t) (f k t e).2.1
noncomputable def zx(A:AH)(t cZ:Int)(x y:Option V):aV:=[U Me,U (.int t),U (.ref (A.R 15 0)),U (.int cZ),x,y]
theorem zF{p:Nat->Bool}(f:Fr p A B)(e:p 15=true):zx B t r x y=zx A t r x y:=by unfold zx;exact Z (cL f e) rfl
inductive TI(A:AH)(M:Hs)(t r:Int)(L:List ai.M.eN)(m:Nat)(b:aV)(h:Hp):Prop
 |mk (a:AH) (L1 l:List ai.M.eN) (cZ:Int) (x:Option V) (d9:b=zx a t cZ x KT) (R:AR h a) (F:Fr G5 A a) (o:a.o 15 0=U (.list (L1.map pl))) (P:cn M.up cZ l r) (e:L1++l=L) (m:l.length=m)
inductive DI(B:AH)(M:Hs)(t r:Int)(L:List ai.M.eN)(g:List ai.M.eN->ai.M.Up)(l:List V)(c:aV)(h:Hp):Prop
 |mk (a:AH) (L1 b:List ai.M.eN) (x y:Option V) (E:l=b.map pl) (d9:c=zx B t r x y) (R:AR h a) (F:Fr p7 B a) (H:ah a (M.BE (g L1))) (e:L1++b=L)
theorem I7{P:PS}{f:aV}{L:List ai.M.eN}(d9:f=zx A t t KT KT)(R:AR h A)(H:ah A M)(j:L.length<=9)(o:A.o 15 0=U (.list []))(p:cn M.up t L r)
  (q:∀h' b x,AR h' b->Fr G5 A b->b.o 15 0=U (.list (L.map pl))->St.bh G1 (a5 G1 T1 n) (bP.body.drop 2) (zx b t r x KT) P h'):
  St.bh G1 (a5 G1 T1 n) (bP.body.drop 1) f P h:=by
 subst d9;refine h8 (TI A M t r L) ?_ ⟨A,[],L,t,KT,rfl,R,.refl,o,p,rfl,rfl⟩;intro m f y K I k;obtain⟨i,L1,l,cZ,x,d9,a,F,c,g,E,s⟩:=I;subst d9;have d:ah i M:=H.fr (F.bT wC);refine bj a d rfl (qZ a d.up ?_);cases g with
 |@cons _ p w l _ e g=>refine bW (by refine Z e ?_;rfl) (b8 a d rfl d.up (v:=gU (p,w)) (by refine Z e ?_;rfl) ⟨aX rfl,ab (aq a c) ⟨rfl,(by decide:2<=aN),aq a c,bJ a c (K6 (KQ (KQ (K2 (KS _)) (KQ (Lr _ _) (K2 (KW.symm.trans (congrArg Ov E))))) j) (by decide):(L1.map pl).length<aN) λz u=>⟨aX rfl,?_⟩⟩⟩);exact k _ (hR s (L7 _)) _ _ ⟨i.set 15 0 (.list (L1.map pl++[pl (cZ,p,w)])),L1++[(cZ,p,w)],l,p,_,rfl,u,F.trans (.set rfl),by refine Z Lm ?_;rfl,g,Lj ..▸E,rfl⟩
 |nil e=>exact bH (by refine Z e ?_;rfl) (q _ _ _ a F ((Lk L1).symm.trans E▸c))
theorem GZ{P:PS}{L:List ai.M.eN}(R:AR h A)(H:ah A M)(N:(L.map (·.1)).Nodup)(T:∀e∈L,M.up e.1=U e.2)(o:A.o 15 0=U (.list (L.map pl)))
  (q:∀h' c x y,AR h' c->Fr p7 A c->ah c (M.BE (dG L M.up))->St.bh G1 (a5 G1 T1 n) (bP.body.drop 3) (zx c t r x y) P h'):
  St.bh G1 (a5 G1 T1 n) (bP.body.drop 2) (zx A t r x y) P h:=by
 refine ab (cW R o) (iN (xs:=L.map pl) (DI A M t r L λa=>dG a M.up) ?_ ?_ ?_ ⟨A,[],L,_,_,rfl,rfl,R,.refl,H,rfl⟩)
 ·intro l p h' I
  obtain⟨c,a,b,x,y,E,d9,s,F,H',e⟩:=I;exact cL (k:=15) (t:=0) F rfl▸s.ip ((F 15 0 rfl).1.trans o)
 ·intro v l p u K C I k
  obtain⟨w,a,b,x,y,E,d9,i,j,d,f⟩:=I;subst d9;cases b with
  |nil=>exact(nomatch E)
  |cons e b=>
   obtain⟨rfl,rfl⟩:=LR E;have z:e.1∉a.map (·.1):=λm=>by simp only[<-f,Lm] at N;exact(Mj.mp N).2.2 _ m _ KX rfl
   exact⟨rfl,aX rfl,aX rfl,bj i d rfl (zV i d.up (v:=gU e.2) (congrArg (NH gU) ((ai.M.oy _ _ _ z).trans (T e (hR f (Ld _ KX))):dG a M.up e.1=U e.2)) λD B=>k _ _ ⟨_,a++[e],b,_,_,rfl,rfl,B,j.trans (.set rfl),ai.M.qt ..▸d.wZ (dz KT),Lj ..▸f⟩)⟩
 ·intro p u I
  obtain⟨w,a,b,x,y,E,d9,i,j,d,f⟩:=I;subst d9;cases b with
  |cons=>exact(nomatch E)
  |nil=>have g:=q _ _ x y i j ((Lk a).symm.trans f▸d);rw[zF j rfl] at g;exact g
theorem G7{P:PS}(R:AR h A)(H:ah A (M.BE (dG L M.up)))(N:∀e∈L,aj e.2.1)(o:A.o 15 0=U (.list (L.map pl)))
  (q:∀h' a x y,AR h' a->Fr p7 A a->ah a (M.BE (eO L (dG L M.up)))->St.bh G1 (a5 G1 T1 n) (bP.body.drop 4) (zx a t r x y) P h'):
  St.bh G1 (a5 G1 T1 n) (bP.body.drop 3) (zx A t r x y) P h:=by
 refine ab (cW R o) (iN (xs:=L.map pl) (DI A M t r L λC=>eO C (dG L M.up)) ?_ ?_ ?_ ⟨A,[],L,_,_,rfl,rfl,R,.refl,H,rfl⟩)
 ·intro l m h' I
  obtain⟨a,d,b,x,y,E,d9,p,F,H',e⟩:=I;exact cL (k:=15) (t:=0) F rfl▸p.ip ((F 15 0 rfl).1.trans o)
 ·intro v l m s K z I k
  obtain⟨u,d,b,x,y,E,d9,f,i,c,j⟩:=I;subst d9;cases b with
  |nil=>exact(nomatch E)
  |cons e b=>obtain⟨rfl,rfl⟩:=LR E;exact⟨rfl,aX rfl,aX rfl,(by decide:2<=aN),bj f c rfl (cF f c.up (aR (N e (hR j (Ld _ KX)))) λB w=>k _ _ ⟨_,d++[e],b,_,_,rfl,rfl,w,i.trans (.set rfl),ai.M.qQ ..▸c.wZ (dz (U (e.1,e.2.2))),Lj ..▸j⟩)⟩
 ·intro m s I
  obtain⟨u,d,b,x,y,E,d9,f,i,c,j⟩:=I;subst d9;cases b with
  |cons=>exact(nomatch E)
  |nil=>have g:=q _ _ x y f i ((Lk d).symm.trans j▸c);replace g:=(zF i rfl)▸g;exact g
theorem Fz{a:aV}{K:aV->Hp->Prop}(q:K a h):ai.Tg.bh G1 C [] [] a K h:=q
theorem turn(R:AR h A)(H:ah A M)(A0:ik M.up)(N:∀x p,M.up x=U p->aj x/\aj p.1)(P:cn M.up t L r)(q:∀h' a,AR h' a->ah a (M.BE (eO L (dG L M.up)))->Fr pL A a->Q (.int r) h'):
  cw (n+1) "turn" [Me,.int t] Q h:=by
 have d:=P.hH A0;have l:L.length<=9:=KQ (K2 (KS _).symm) (hk (u:=ar) d λx m=>by
  refine aD (LG.mp m) λe c E=>?_;clear m;subst E;exact aR (N _ _ (P.at e c)).1);refine ab z2 ⟨rfl,c6 15 0 (xs:=[]) R (Lf _) λg C i=>⟨(by decide:2<=aN),rfl,aX rfl,aX rfl,Fz (cx ?_)⟩⟩;have f:Fr G5 A (A.new 15 0 g (.list [])):=.new rfl;exact I7 (t:=t) rfl i (H.fr (f.bT wC)) l rfl P λD G x j F o=>GZ j (H.fr ((f.trans F).bT wC)) d P.at o λI J x y s b v=>G7 s v (λe m=>(N _ _ (P.at e m)).2) ((b 15 0 rfl).1.trans o) λK S x y w z B=>
  ⟨_,_,.refl,q _ _ w B ((((f.trans F).bT λk e=>wC k (qe k e)).trans (b.bT Gk)).trans (z.bT Gk))⟩
end ai.L1
namespace ai.M
noncomputable def cA(L:List eN)(r:Int):List Int:=L.map (·.1)++[r]
theorem cn.mem{up:Up}{t r:Int}{L:List eN}(h:cn up t L r)(x:Int):x∈cA L r↔a6 up t x:=by unfold cA;simp only[h.pI,K8,KU]
theorem cn.y9{up:Up}{t r:Int}{L:List eN}(A:ik up)(h:cn up t L r):(cA L r).Nodup:=by have:=(h.turn A).hH A;rwa[<-h.k9] at this
inductive sL(up:Up):Int->List eN->Int->Prop
 |nil {t}:sL up t [] t
 |la {t L x p w}:sL up t L x->up x=U (p,w)->sL up t (L++[(x,p,w)]) p
theorem sL.pI{up:Up}{t x:Int}{L:List eN}(h:sL up t L x):∀c,a6 up t c↔c∈L.map (·.1)\/a6 up x c:=by
 induction h with
 |nil=>intro c;exact⟨.inr,λq=>q.elim (λq=>nomatch q) id⟩
 |la h e i=>
  intro c;simp only[i c,Lm,K8,or_assoc];refine or_congr Tj ?_;constructor
  ·intro q
   induction q with
   |refl=>exact .inl (Lo _)
   |step E q=>replace E:=e▸E;obtain⟨rfl,rfl⟩:=LQ (KP E);exact .inr q
  ·rintro(q |q)
   ·cases KU.mp q;exact .refl
   ·exact .step e q
theorem cn.split{up:Up}{t r:Int}{L:List eN}(h:cn up t L r):∀{X y:List Int} {x:Int},cA L r=X++x::y->∀c,a6 up x c↔c∈x::y:=by
 induction h with
 |nil e=>
  intro X y x E c;induction X using LP with
  |nil=>obtain⟨rfl,rfl⟩:=LR E;exact(cn.nil e).mem c|>.symm
  |cons a X=>exact absurd (((PA ..).mp E).2.symm:X++x::y=[]) (by simp)
 |cons e h i=>
  intro X y x E c;induction X using LP with
  |nil=>obtain⟨rfl,rfl⟩:=LR E;exact(cn.cons e h).mem c|>.symm
  |cons a X=>exact i ((PA ..).mp E).2 c
theorem ss(A:ik up){X y:List Int}(p:cn up a L r)(q:sL up b L1 x)(n:∀c∈L1.map (·.1),c∉cA L r)(e:cA L r=X++x::y)(c:Int):
  c∈X++L1.map (·.1)↔kK up a b c:=by
 have N:=p.y9 A;have R:=p.mem c;have n:=n c;rw[e] at N R n;rw[K8] at R n;unfold kK;simp only[(q.pI c),(p.split e c),<-R,K8];constructor
 ·rintro(h |h)
  ·refine .inl ⟨.inl h,?_⟩
   rintro(g |g);·exact n g (.inl h)
   ·exact((Mj.mp N).2.2) _ h _ g rfl
  ·exact .inr ⟨.inl h,n h⟩
 ·rintro(⟨h,g⟩ |⟨h,g⟩)
  ·exact K4 h (λh=>.inl h) λh=>(g (.inr h)).elim
  ·exact K4 h (λh=>.inr h) λh=>(g (.inr h)).elim
noncomputable def ix:List Int->Int->Option Nat
 |[],_=>KT
 |a::l,x=>if a=x then U 0 else(ix l x).map (·+1)
theorem rM:∀{l:List Int} {x:Int},ix l x=KT↔x∉l
 |[],x=>⟨λ_ m=>(nomatch m),λ_=>rfl⟩
 |a::l,x=>by
  unfold ix;by_cases c:a=x;·exact Z (if_pos c) (⟨λh=>(nomatch h),λh=>(h (Z c KX)).elim⟩)
  ·simp only[if_neg c,Option.map_eq_none_iff,rM,KZ,not_or]
   exact⟨λh=>⟨λe=>c e.symm,h⟩,λh=>h.2⟩
theorem r0:∀{l:List Int} {x:Int} {n:Nat},ix l x=U n->∃y,l=l.take n++x::y/\n<l.length
 |[],x,n,h=>nomatch h
 |a::l,x,n,h=>by
  unfold ix at h;by_cases c:a=x;·replace h:=(if_pos c)▸h;obtain rfl:=KP h;subst c;exact⟨l,rfl,M4 _⟩
  ·replace h:=(if_neg c)▸h
   refine aD (OC.mp h) λm H E=>?_;subst E;exact aD (r0 H) λy e q=>⟨y,congrArg (a::·) e,PZ q⟩
theorem rO:∀{l:List Int} {x:Int},x∉l->ix (l++[x])=aH (ix l) x (U l.length)
 |[],x,_=>by
  funext y;refine(?_ :(if x=y then U 0 else KT)=if y=x then _ else _);by_cases c:x=y;·refine Z (if_pos c) (Z (if_pos c.symm) ?_);rfl
  ·refine Z (if_neg c) (Z (if_neg λe=>c e.symm) ?_);rfl
 |a::l,x,h=>by
  simp only[KZ,not_or] at h;funext y;refine((Z (rO h.2) ?_):(if a=y then U 0 else(ix (l++[x]) y).map (·+1))=aH (ix (a::l)) x (U (l.length+1)) y);by_cases c:y=x
  ·subst c
   (rw[aP,aP];refine Z (if_neg λe=>h.1 e.symm) ?_);rfl
  ·refine Z (aI _ _ c) (Z (aI _ _ c) ?_);rfl
end ai.M
namespace ai.L1
open ai.M (kK jY a6 ik cn sL aH)
def d5(up:M.Up)(a b:Int)(l:List Int):Prop:=
 l.Pairwise (·<·)/\∃X:Int->Prop,jY up X/\(∀c,kK up a b c->X c)/\(∀y:Int->Prop,jY up y->(∀c,kK up a b c->y c)->∀c,X c->y c)/\∀r,r∈l↔r≠0/\∃c p,X c/\up c=U (p,U r)
structure hO(up:M.Up):Prop where
 ac:ik up
 nn:∀x p,up x=U p->aj x/\aj p.1
 ag:∀c p,up c=U (p,KT)->∃u v,M.arg c=U u/\M.arg p=U v/\∃m,a6 up u m/\a6 up v m
structure Xp(up:M.Up)(a b:Int)(S:Int->Bool)(W:List (Int×Int))(P:List Int):Prop where
 snd:∀y:Int->Prop,jY up y->(∀c,kK up a b c->y c)->(∀c,S c=true->y c)/\(∀c∈P,y c)/\∀w∈W,∀c,kK up w.1 w.2 c->y c
 top:∀c,kK up a b c->S c=true\/c∈P\/∃w∈W,kK up w.1 w.2 c
 cl:∀c p u v,S c=true->up c=U (p,KT)->M.arg c=U u->M.arg p=U v->∀d,kK up u v d->S d=true\/d∈P\/∃w∈W,kK up w.1 w.2 d
 mt:∀w∈W,aj w.1/\aj w.2/\∃m,a6 up w.1 m/\a6 up w.2 m
 pn:∀c∈P,∃p,up c=U p
section
variable {up:M.Up} {a b:Int} {S:Int->Bool} {W:List (Int×Int)} {P:List Int}
theorem Xp.start(n:aj a)(N:aj b)(m:∃m,a6 up a m/\a6 up b m):Xp up a b (λ_=>false) [(a,b)] []:=
 ⟨λy _ h=>⟨λ_ e=>(nomatch e),λ_ e=>(nomatch e),λw e=>by cases KU.mp e;exact h⟩,λc h=>.inr (.inr ⟨_,Lo _,h⟩),λ_ _ _ _ e=>(nomatch e),λw e=>by cases KU.mp e;exact⟨n,N,m⟩,λ_ e=>(nomatch e)⟩
theorem Ee(A:ik up)(b:a6 up u m)(V:a6 up v m)(s:kK up u v d):∃p,up d=U p:=by
 have key:∀{u v},a6 up u m->a6 up v m->a6 up u d->¬a6 up v d->∃p,up d=U p:=by
  intro u v b V h n;refine K4 (h.Fi b) (λr=>?_) λr=>(n (V.trans r)).elim
  ·clear b;induction r with
   |refl=>exact(n V).elim
   |step e _=>exact⟨_,e⟩
 exact K4 s (λR=>ay R λh n=>key b V h n) λa=>ay a λh n=>key V b h n
theorem Xp.pop{u v:Int}{l:List Int}(A:ik up)(h:Xp up a b S (W++[(u,v)]) [])(H:∀c,c∈l↔kK up u v c):Xp up a b S W l:=by
 have mv:∀d,(S d=true\/d∈([]:List Int)\/∃w∈W++[(u,v)],kK up w.1 w.2 d)->S d=true\/d∈l\/∃w∈W,kK up w.1 w.2 d:=by
  rintro d (h |h |⟨w,m,h⟩);·exact .inl h
  ·cases h
  ·rcases K8.mp m with m |m
   ·exact .inr (.inr ⟨w,m,h⟩)
   ·cases KU.mp m;exact .inr (.inl ((H d).mpr h))
 exact cH (h.mt (u,v) (Ld _ (Lo _))) λ_ _ r=>aD r λm R g=>⟨λy c t=>cH (h.snd y c t) λi _ f=>⟨i,λc m=>f _ (Ld _ (Lo _)) c ((H c).mp m),λw m=>f w (Lb _ m)⟩,λc s=>mv c (h.top c s),λc p u v s e E j d k=>mv d (h.cl c p u v s e E j d k),λw m=>h.mt w (Lb _ m),λc m=>Ee A R g ((H c).mp m)⟩
theorem Xp.skip{c:Int}(h:Xp up a b S W (c::P))(s:S c=true):Xp up a b S W P:=by
 have mv:∀d,(S d=true\/d∈c::P\/∃w∈W,kK up w.1 w.2 d)->S d=true\/d∈P\/∃w∈W,kK up w.1 w.2 d:=by
  rintro d (h |h |h);·exact .inl h
  ·rcases KZ.mp h with rfl |h
   ·exact .inl s
   ·exact .inr (.inl h)
  ·exact .inr (.inr h)
 exact⟨λy c t=>cH (h.snd y c t) λH f g=>⟨H,λc m=>f c (K1 _ m),g⟩,λc s=>mv c (h.top c s),λc p u v s e E i d k=>mv d (h.cl c p u v s e E i d k),h.mt,λc m=>h.pn c (K1 _ m)⟩
theorem iF{S:Int->Bool}{c:Int}:aH S c true d=true↔d=c\/S d=true:=by
 by_cases e:d=c;·subst e;exact Z (M.aP _ _ _) ⟨λ_=>.inl rfl,λ_=>rfl⟩
 ·exact Z (M.aI _ _ e) ⟨.inr,λh=>h.resolve_left e⟩
theorem Xp.add{c:Int}{f:List (Int×Int)}(h:Xp up a b S W (c::P))(bv:∀w∈W,w∈f)(mt:∀w∈f,aj w.1/\aj w.2/\∃m,a6 up w.1 m/\a6 up w.2 m)
  (D:∀l:Int->Prop,jY up l->l c->∀w∈f,w∈W\/∀d,kK up w.1 w.2 d->l d)(C:∀p u v,up c=U (p,none)->M.arg c=U u->M.arg p=U v->(u,v)∈f):Xp up a b (aH S c true) f P:=by
 have mv:∀d,(S d=true\/d∈c::P\/∃w∈W,kK up w.1 w.2 d)->aH S c true d=true\/d∈P\/∃w∈f,kK up w.1 w.2 d:=by
  rintro d (h |h |⟨w,m,h⟩);·exact .inl (iF.mpr (.inr h))
  ·clear C D;refine K4 (KZ.mp h) (λrfl=>?_) λh=>?_
   ·exact .inl (iF.mpr (.inl rfl))
   ·exact .inr (.inl h)
  ·exact .inr (.inr ⟨w,bv w m,h⟩)
 refine⟨λl k t=>?_,λc s=>mv c (h.top c s),λd p u v s e E g x k=>?_,mt,λc m=>h.pn c (K1 _ m)⟩
 ·obtain⟨i,H,j⟩:=h.snd l k t
  have y:=H c KX;refine⟨λd s=>?_,λc m=>H c (K1 _ m),λw m=>K4 (D l k y w m) (λm=>j w m) λm=>m⟩
  ·clear H mv C D h;rcases iF.mp s with rfl |s
   ·exact y
   ·exact i d s
 ·clear D;rcases iF.mp s with rfl |s
  ·exact .inr (.inr ⟨_,C p u v e E g,k⟩)
  ·exact mv x (h.cl d p u v s e E g x k)
theorem Xp.je{c p r:Int}(h:Xp up a b S W (c::P))(e:up c=U (p,U r)):Xp up a b (aH S c true) W P:=
 h.add (λ_ m=>m) h.mt (λ_ _ _ _ m=>.inl m) λp u v E=>by rw[e] at E;exact(nomatch E)
theorem Xp.arg{c p u v:Int}(h:Xp up a b S W (c::P))(e:up c=U (p,none))(d:M.arg c=U u)(f:M.arg p=U v)(n:aj u)(N:aj v)(mt:∃m,a6 up u m/\a6 up v m):Xp up a b (aH S c true) (W++[(u,v)]) P:=by
 refine h.add (λ_ m=>Lb _ m) (λw m=>?_) (λj k y w m=>?_) λg i V E a1 a2=>?_
 ·rcases K8.mp m with m |m
  ·exact h.mt w m
  ·cases KU.mp m;exact⟨n,N,mt⟩
 ·rcases K8.mp m with m |m
  ·exact .inl m
  ·cases KU.mp m;exact .inr (k c p u v y e d f)
 ·replace E:=e▸E;(cases KP E)
  replace a1:=d▸a1;replace a2:=f▸a2;(replace a1:=KP a1;subst a1);obtain rfl:=KP a2;exact Ld _ (Lo _)
def Fd(up:M.Up)(S:Int->Bool)(r:Int):Prop:=r≠0/\∃c p,S c=true/\up c=U (p,U r)
theorem Xp.out{l:List Int}(h:Xp up a b S [] [])(s:l.Pairwise (·<·))(H:∀r,r∈l↔Fd up S r):d5 up a b l:=
 ⟨s,λc=>S c=true,λc p u v s e E f d k=>(h.cl c p u v s e E f d k).elim id λq=>q.elim (λq=>nomatch q) λ⟨_,m,_⟩=>(nomatch m),
  λc k=>(h.top c k).elim id λq=>q.elim (λq=>nomatch q) λ⟨_,m,_⟩=>(nomatch m),λy k t=>(h.snd y k t).1,H⟩
end
noncomputable def D6(S:Int->Bool):Nat:=(ar.filter λc=>!S c).length
theorem wv{p q:Int->Bool}{c:Int}(h:p c=true)(H:q c=false)(s:∀x,q x=true->p x=true):∀(l:List Int),c∈l->(l.filter q).length+1<=(l.filter p).length:=by
 have L:∀l:List Int,(l.filter q).length<=(l.filter p).length:=by
  intro l;induction l with
  |nil=>exact K9 _
  |cons x l i=>
   refine Z MV (Z MV ?_);induction e:q x with
   |true=>exact Z (s x e) (Lp i)
   |false=>
    induction E:p x with
    |true=>exact LH i
    |false=>exact i
 intro l;induction l with
 |nil=>intro m;cases m
 |cons x l i=>
  intro m;refine Z MV (Z MV ?_);rcases KZ.mp m with rfl |m
  ·exact Z h (Z H (Lp (L l)))
  ·have:=i m
   induction e:q x with
   |true=>exact Z (s x e) (Lp this)
   |false=>
    induction E:p x with
    |true=>exact LH this
    |false=>exact this
theorem Cf{S:Int->Bool}{c:Int}(h:S c=false)(n:aj c):D6 (aH S c true)+1<=D6 S:=by
 refine wv (c:=c) (by refine Z h ?_;rfl) (by refine Z (M.aP _ _ _) ?_;rfl) (λx e=>?_) ar (aR n);by_cases k:x=c;·clear e n;subst k;refine Z h ?_;rfl
 ·rwa[M.aI _ _ k] at e
theorem rR{L:Int->Int->Bool}(a x:Int):∀l:List Int,x∈jU L a l↔x=a\/x∈l
 |[]=>by refine((iR KU ?_):x∈[a]↔_);exact⟨.inl,λh=>h.elim id λh=>nomatch h⟩
 |b::r=>by
  show x∈(if L a b=true then a::b::r else b::jU L a r)↔_;split;·rw[KZ]
  ·simp only[KZ,rR a x r,KZ,or_left_comm]
theorem hB(x:Int):∀l:List Int,x∈cE l↔x∈l
 |[]=>Tj
 |a::r=>by refine(?_ :x∈jU _ a (cE r)↔_);simp only[rR,hB x r,KZ]
set_option tactic.hygienic true in
theorem Aw{a:Int}:∀{l:List Int},l.Pairwise (·<·)->a∉l->(jU (λa b=>decide (a<=b)) a l).Pairwise (·<·)
 |[],_,_=>List.pairwise_singleton _ _
 |b::r,h,n=>by
  refine(?_ :(if decide (a<=b)=true then a::b::r else b::jU _ a r).Pairwise (·<·))
  simp only[KZ,not_or] at n
  have h:=Ml.mp h
  split
  ·rename_i c
   have c:a<b:=Int.lt_iff_le_and_ne.mpr ⟨of_decide_eq_true c,n.1⟩
   refine Ml.mpr ⟨λx m=>?_,Ml.mpr h⟩
   rcases KZ.mp m with rfl |m
   ·exact c
   ·exact Int.lt_trans c (h.1 x m)
  ·rename_i c
   have c:b<a:=Int.not_le.mp λq=>c (decide_eq_true q)
   refine Ml.mpr ⟨λx m=>?_,Aw h.2 n.2⟩
   rcases(rR _ _ _).mp m with rfl |m
   ·exact c
   ·exact h.1 x m
theorem mT:∀{l:List Int},l.Nodup->(cE l).Pairwise (·<·)
 |[],_=>Qm
 |a::r,h=>by have h:=Ll.mp h;exact Aw (mT h.2) λm=>h.1 ((hB a r).mp m)
open ai.M (eN Up rM r0 rO ss dG eO cA ix)
variable {h:Hp} {A:AH} {M:Hs} {Q:PV} {n:Nat}
theorem n5(W:hO up)(P:cn up t L r):L.length<=9:=by
 have:=hk (u:=ar) (P.hH W.ac) λx m=>by refine aD (LG.mp m) λe h E=>?_;clear m;subst E;exact aR (W.nn _ _ (P.at e h)).1
 rwa[KS] at this
noncomputable def cp(M:Hs)(l r:Int)(w:Option Int)(L:List eN)(top:Int):Hs:=(M.BE (aH (eO L (dG L M.up)) l (U (r,w)))).bR (M.ak++[.oH l top])
theorem IW(R:AR h A)(H:ah A M)(W:hO M.up){top:Int}(P:cn M.up l L top)(N:aj l)(lt:M.ak.length<aN)(q:∀h' c,AR h' c->ah c (cp M l r w L top)->Fr pL A c->Q .none h'):
  cw (n+2) "hang" [Me,.int l,.int r,ty w] Q h:=by
 refine ab As ⟨rfl,bX R H rfl sa (a1 rfl (turn R H W.ac W.nn P λj k g d F=>⟨aX rfl,(by decide:2<=aN),bj g d rfl (cF g d.up (aR N) λm b=>?_)⟩))⟩;have a:=d.wZ (dz (e:=gU) (f:=(M.BE (eO L (dG L M.up))).up) (t:=l) (U (r,w)));exact bj b a rfl (ab (aq b a.ak) ⟨rfl,(by decide:3<=aN),aq b a.ak,bJ b a.ak (Z (KS _) lt) λo i=>q _ _ i (a.c9 (l:=M.ak++[e0.oH l top]) (dc M.ak (e0.oH l top))) (F.trans (.trans (.set rfl) (.set rfl)))⟩)
noncomputable def pE(k:Nat):Bool:=!(Ly k 15||(Ly k 16||Ly k 17))
theorem EP(k:Nat)(h:pX k=true):pE k=true:=by
 unfold pX at h;unfold pE;have c:∀j,LS 20 j=false->LS j 15=false->k≠j:=λj a b e=>by subst e;simp only[a,b] at h;exact aK h
 have e:∀j,k≠j->Ly k j=false:=λj e=>by
  induction q:Ly k j with
  |false=>rfl
  |true=>exact(e (Mc q)).elim
 simp only[e 15 (c 15 rfl rfl),e 16 (c 16 rfl rfl),e 17 (c 17 rfl rfl)];rfl
noncomputable def vN(x:Option Nat):Option V:=x.map λ(n:Nat)=>V.int n
noncomputable def d9(A:AH)(a b cZ:Int)(x6:Option V):aV:=[U Me,U (.int a),U (.int b),U (.ref (A.R 15 0)),U (.ref (A.R 16 0)),U (.int cZ),x6]
structure E1(A:AH)(M:Hs)(r:Int)(L:List eN)(h:Hp)(a:AH)(L1 l:List eN)(cZ:Int):Prop where
 R:AR h a
 F:Fr pE A a
 o:a.o 15 0=U (.list (ae (cA L1 cZ)))
 d:a.o 16 0=U (.dI ar λx=>vN (ix (cA L1 cZ) x))
 P:cn M.up cZ l r
 e:L1++l=L
inductive KF(A:AH)(M:Hs)(a b r:Int)(L:List eN)(m:Nat)(d:aV)(h:Hp):Prop
 |mk (c:AH) (L1 l:List eN) (cZ:Int) (e:d=d9 c a b cZ KT) (I:E1 A M r L h c L1 l cZ) (E:l.length=m)
structure E2(A:AH)(M:Hs)(b:Int)(N:List Int)(h:Hp)(a:AH)(L1 l:List eN)(cZ r:Int):Prop where
 R:AR h a
 F:Fr pE A a
 o:a.o 15 0=U (.list (ae N))
 d:a.o 16 0=U (.dI ar λx=>vN (ix N x))
 k:a.o 17 0=U (.list (ae (L1.map (·.1))))
 P:sL M.up b L1 cZ
 P2:cn M.up cZ l r
 nn:∀c∈L1.map (·.1),c∉N
 rm:∃m,a6 M.up cZ m/\m∈N
 cQ:L1.length+l.length<=9
inductive Kd(A:AH)(M:Hs)(a b:Int)(N:List Int)(m:Nat)(d:aV)(h:Hp):Prop
 |mk (c:AH) (L1 l:List eN) (cZ r:Int) (e:d=d9 c a b cZ (U (.ref (c.R 17 0)))) (I:E2 A M b N h c L1 l cZ r) (E:l.length=m)
theorem ot(L:List eN)(x p:Int)(w:Option Int):cA (L++[(x,p,w)]) p=cA L x++[p]:=by unfold cA;refine Z Lm ?_;rfl
theorem yq(L l:List eN)(r:Int):cA (L++l) r=L.map (·.1)++cA l r:=by unfold cA;simp only[Lm,Lj]
theorem qB(L:List eN)(r:Int):(cA L r).length=L.length+1:=by unfold cA;(refine Z KW (Z (KS _) ?_));rfl
theorem Cp{l:List Int}{x:Int}(h:x∉l):ft (λy=>vN (ix l y)) x (U (.int l.length))=λy=>vN (ix (l++[x]) y):=by
 refine Z (rO h) ?_;funext y;refine(?_ :(if y=x then _ else _)=vN (if y=x then _ else _));by_cases c:y=x;·refine Z (if_pos c) (Z (if_pos c) ?_);rfl
 ·exact Z (if_neg c) (Z (if_neg c) rfl)
theorem ia{C:Ctx}{c:V}{xs:List V}{i:Nat}(e:ca h c=U xs)(l:(i:Int)<=mD)(q:newList (xs.take i) Q h):(bB (ca h c) λxs=>bB (V.int i).fF λn=>0<=n/\n<=mD/\newList (xs.take n.toNat) Q h):=ab e ⟨LO i,l,q⟩
theorem BA{a b:List V}{c:cq}(e:ca h (.ref c)=U b)(l:a.length<=aN)(L:b.length<=aN)(q:newList (a++b) Q h):sQ .add (.fl a) (.ref c) Q h:=
 (ab e ⟨l,L,q⟩:bB (ca h (.ref c)) λys=>a.length<=aN/\ys.length<=aN/\newList (a++ys) Q h)
theorem d1{b:aV}{i:Nat}{v:V}(e:(b[i]?).join=U (.int a))(q:dH [.int a] [v] Q h):Ex.wp G1 C (.dict [.var i] [.aE v]) b Q h:=by refine ab (a:=[V.int a]) ((Z e ?_):(b[i]?).join.bind _=_) q;rfl
theorem h3{a:Nat}(h:a<=100):a<=aN:=KQ h (by decide)
set_option tactic.hygienic true in
theorem CL{P:PS}(H:ah A M)(W:hO M.up)(d:cn M.up a L r)(I:E1 A M r L h A0 [] L a)(q:∀h' i,E1 A M r L h' i L [] r->M.up r=KT->St.bh G1 (a5 G1 T1 n) (bp.body.drop 2) (d9 i a b r KT) P h'):
  St.bh G1 (a5 G1 T1 n) (bp.body.drop 1) (d9 A0 a b a KT) P h:=by
 refine h8 (KF A M a b r L) (λm G J K I k=>?_) ⟨A0,[],L,a,rfl,I,rfl⟩
 obtain⟨f,L1,l,cZ,u,⟨R,F,o,D,x,E⟩,y⟩:=I
 subst u
 have c:ah f M:=H.fr (F.bT EP)
 refine bj R c rfl (qZ R c.up ?_)
 have g:=n5 W d
 cases x with
 |cons e j=>
  rename_i p w l
  have N:=d.y9 W.ac
  rw[<-E,yq] at N
  have z:p∉cA L1 cZ:=λm=>by
   have mp:p∈cA l r:=(j.mem p).mpr .refl
   unfold cA at m
   refine K4 (K8.mp m) (λm=>(Mj.mp N).2.2 p m p (K1 _ mp) rfl) λm=>?_
   ·simp only[KU.mp m] at mp
    exact(Ll.mp (Mj.mp N).2.1).1 mp
  simp only[<-E,KW,LK] at g
  have s:(ae (cA L1 cZ)).length<aN:=by rw[bb,qB];exact K6 (Lp (KQ (Lr _ _) g)) (by decide)
  refine bW (by refine Z e ?_;rfl) (b8 R c rfl c.up (v:=gU (p,w)) (by refine Z e ?_;rfl) ⟨aX rfl,cD R o ⟨LJ s,cF R D (aR (W.nn _ _ e).2) λQ B=>ic (A:=f.set 16 0 _) B (k:=15) (t:=0) o s λS C=>?_⟩⟩)
  refine k _ (hR y (L7 _)) _ _ ⟨(f.set 16 0 _).set 15 0 _,L1++[(cZ,p,w)],l,p,rfl,⟨C,F.trans (.trans (.set rfl) (.set rfl)),?_,?_,j,Z (Lj _ _ _) E⟩,rfl⟩
  ·rw[ot,<-fB];rfl
  ·(rw[ot,<-Cp z];refine hR (bb _) ?_);rfl
 |nil e=>
  rw[Lk] at E
  clear g k I d
  subst E
  exact bH (by refine Z e ?_;rfl) (q _ _ ⟨R,F,o,D,.nil e,Lk _⟩ e)
theorem EU{R:Int}{i:Nat}{Po:PS}(W:hO M.up)(p:cn M.up a L1 r)(I:E2 A M b (cA L1 r) h d L j x R)(c:ix (cA L1 r) x=U i)
  (q:∀h' e l k,AR h' e->Fr pE A e->(∀c,c∈l↔kK M.up a b c)->l.length<=18->Po (.ret (.fl (ae l))) k h'):St.bh G1 (a5 G1 T1 n) (bp.body.drop 4) (d9 d a b x (U (.ref (d.R 17 0)))) Po h:=by
 refine aD (r0 c) λy E g=>?_;have N:(cA L1 r).length<=10:=Z (qB _ _) (Lp (n5 W p));have lt:((ae (cA L1 r)).take i).length<=9:=by exact Z MH (Z (bb _) (KQ (Qg _ _) (RO (Li g N))))
 have B:(ae (L.map (·.1))).length<=9:=by(refine Z (bb _) ?_;rw[KS]);exact KQ (Lr _ _) I.cQ
 have t:(ae (cA L1 r)).take i++ae (L.map (·.1))=ae ((cA L1 r).take i++L.map (·.1)):=by rw[<-fB];unfold ae;rw[NJ]
 have f:((ae (cA L1 r)).take i++ae (L.map (·.1))).length<=18:=Z KW (Pe lt B);refine cI I.R I.d (v:=.int i) (by refine Z c ?_;rfl) (ia (C:=a5 G1 T1 n) (bU I.R I.o) (MI (MS.mpr (KQ (LJ g) N)) (by decide)) (bz (h3 (KQ lt (by decide))) ?_));refine BA (bU I.R I.k) (h3 (KQ lt (by decide))) (h3 (KQ B (by decide))) (bz (h3 (KQ f (by decide))) ?_);rw[t] at f⊢;rw[bb] at f;exact q _ _ _ _ I.R I.F (ss W.ac p I.P I.nn E) f
set_option tactic.hygienic true in
theorem Br{Po:PS}(H:ah A M)(W:hO M.up)(P:cn M.up a L1 r)(mt:∃m,a6 M.up a m/\a6 M.up b m)(I:E1 A M r L1 h f L1 [] r)
  (q:∀h' g l j,AR h' g->Fr pE A g->(∀c,c∈l↔kK M.up a b c)->l.length<=18->Po (.ret (.fl (ae l))) j h'):St.bh G1 (a5 G1 T1 n) (bp.body.drop 2) (d9 f a b r KT) Po h:=by
 refine g1 (cn.exists (W.ac b)) λu y B=>c6 17 0 (xs:=[]) I.R (Lf _) λz h4 D=>⟨(by decide:2<=aN),rfl,aX rfl,aX rfl,?_⟩
 have G:∃m,a6 M.up b m/\m∈cA L1 r:=by
  exact aD mt λm Q S=>⟨m,S,(P.mem m).mpr Q⟩
 refine h8 (Kd A M a b (cA L1 r)) (λm j h5 K J k=>?_) ⟨f.new 17 0 z _,[],u,b,y,rfl,⟨D,I.F.trans (.new rfl),I.o,I.d,rfl,.nil,B,λ_ m=>(nomatch m),G,Z NL (Z (ND _) (n5 W B))⟩,rfl⟩
 obtain⟨o,L,C,x,T,V,J,em⟩:=J
 subst V
 refine fS J.R J.d ?_
 induction c:ix (cA L1 r) x with
 |some i=>exact bH rfl (EU W P J c q)
 |none=>
  have X:=rM.mp c
  obtain⟨R5,F,o5,d5,k5,P5,P6,nn,⟨m,R,N⟩,cQ⟩:=J
  cases P6 with
  |nil e=>
   cases R with
   |refl=>exact(X N).elim
   |step E _=>replace E:=e▸E;exact al E
  |cons E P7=>
   rename_i p w C
   have l5:(ae (L.map (·.1))).length<aN:=by
    exact Z (bb _) (Z (KS _) (K6 (KQ (Lr _ _) cQ) (by decide)))
   refine bW rfl (ic R5 k5 l5 λh6 s=>?_)
   have t:ah (o.set 17 0 (.list (ae (L.map (·.1))++[.int x]))) M:=H.fr ((F.trans (.set rfl)).bT EP)
   refine b8 s t rfl t.up (v:=gU (p,w)) (by refine Z E ?_;rfl) ⟨aX rfl,?_⟩
   refine k _ (hR em (L7 _)) _ _ ⟨o.set 17 0 _,L++[(x,p,w)],C,p,T,rfl,⟨s,F.trans (.set rfl),o5,d5,?_,.la P5 E,P7,?_,?_,?_⟩,rfl⟩
   ·refine Z Lm (hR (fB _ _) ?_);rfl
   ·intro c m
    replace m:=Lm▸m
    refine K4 (K8.mp m) (λm=>nn c m) λm=>?_
    cases KU.mp m;exact X
   ·cases R with
    |refl=>exact(X N).elim
    |step d r=>replace d:=E▸d;(cases KP d);exact⟨m,r,N⟩
   ·refine Z KW ?_;simp only[LK] at cQ;exact KQ (K2 (Z (S1 _ _ _) (congrArg (L.length+·) (Nat.add_comm 1 _)))) cQ
theorem oV(R:AR h A)(H:ah A M)(W:hO M.up)(N:aj a)(B:aj b)(mt:∃m,a6 M.up a m/\a6 M.up b m)
  (q:∀h' d l,AR h' d->Fr pE A d->(∀c,c∈l↔kK M.up a b c)->l.length<=18->Q (.fl (ae l)) h'):cw (n+1) "edges_between" [Me,.int a,.int b] Q h:=by
 refine g1 (cn.exists (W.ac a)) λL r p=>ab kD ⟨rfl,c6 15 0 (xs:=[.int a]) R (by refine(?_ :1<=aN);decide) λg u i=>?_⟩;refine d1 (a:=a) rfl (EC 16 0 a (.int 0) ar i (aX rfl) (aR N) λj v k=>⟨(by decide:3<=aN),rfl,aX rfl,aX rfl,aX rfl,CL (A0:=(A.new 15 0 g _).new 16 0 j _) H W p ⟨k,.trans (.new rfl) (.new rfl),rfl,((congrArg (λf=>U (AO.dI ar f)) (funext λy=>(?_ :(if y=a then U (V.int 0) else KT)=vN (if a=y then U 0 else KT)))):U (AO.dI ar _)=_),p,rfl⟩ λw x I _=>Br H W p mt I λz C l D o F s t=>⟨_,_,.refl,q _ _ l o F s t⟩⟩);by_cases c:y=a;·refine Z (if_pos c) (Z (if_pos c.symm) ?_);rfl
 ·refine Z (if_neg c) (Z (if_neg λe=>c e.symm) ?_);rfl
open PySem PyProof.Rows
noncomputable def q6(up:Up):List Int:=ar.filterMap λc=>(up c).bind (·.2)
theorem ny(up:Up):(q6 up).length<=9:=M7 _ _
theorem vB{up:Up}{c p r:Int}(n:aj c)(e:up c=U (p,U r)):r∈q6 up:=NM.mpr ⟨c,aR n,by refine Z e ?_;rfl⟩
noncomputable def sB(S:Int->Bool)(c:Int):Option V:=if S c=true then U (.bool true) else KT
theorem yU(S:Int->Bool)(c:Int):ft (sB S) c (U (.bool true))=sB (aH S c true):=by
 funext x;refine(?_ :(if x=c then _ else _)=(if(if x=c then true else S x)=true then _ else _));by_cases e:x=c;·exact Z (if_pos e) (Z (if_pos e) (Z (if_pos rfl) rfl))
 ·refine Z (if_neg e) (Z (if_neg e) ?_);rfl
theorem wu(S:Int->Bool)(c:Int):(sB S c).isSome=S c:=by unfold sB;cases S c<;>rfl
noncomputable def EL(A:AH)(a b:Int)(x6 x7 x8 x9 x10:Option V):aV:=[U Me,U (.int a),U (.int b),U (.ref (A.R 18 0)),U (.ref (A.R 19 0)),U (.ref (A.R 20 0)),x6,x7,x8,x9,x10]
structure XS(A:AH)(M:Hs)(a b:Int)(h:Hp)(c:AH)(S:Int->Bool)(W:List (Int×Int))(P:List Int)(g:Int->Option V):Prop where
 R:AR h c
 F:Fr pX A c
 w:c.o 18 0=U (.list (W.map b'))
 s:c.o 19 0=U (.dI ar (sB S))
 f:c.o 20 0=U (.dI (q6 M.up) g)
 g:∀r,(g r).isSome=true↔Fd M.up S r
 x:Xp M.up a b S W P
inductive XW(A:AH)(M:Hs)(a b:Int)(m:Nat)(d:aV)(h:Hp):Prop
 |mk (c:AH) (S:Int->Bool) (W:List (Int×Int)) (g:Int->Option V) (x6 x7 x8 x9 x10:Option V) (e:d=EL c a b x6 x7 x8 x9 x10) (X:XS A M a b h c S W [] g) (B:2*D6 S+W.length<=m) (f:m<=19)
inductive XF(A:AH)(M:Hs)(a b:Int)(m:Nat)(x6 x7:Option V)(l:List V)(d:aV)(h:Hp):Prop
 |mk (c:AH) (S:Int->Bool) (W:List (Int×Int)) (P:List Int) (g:Int->Option V) (x8 x9 x10:Option V) (e:l=ae P) (E:d=EL c a b x6 x7 x8 x9 x10) (X:XS A M a b h c S W P g) (B:2*D6 S+W.length<m)
noncomputable def JY:List St:=match cK.body.drop 2 with
 |.while _ (_::.for _ _ b::_)::_=>b
 |_=>[]
theorem Eg{k:Nat}{g:Int->Option V}(R:AR h A)(e:A.o k t=U (.dI u g))(q:∀l:List Int,l.Nodup->(∀r,r∈l↔(g r).isSome=true)->l.length<=u.length->newList (ae l) Q h):pQ .list [.ref (A.R k t)] Q h:=by exact il (R.dI e) λes a E b d c=>(ab a (q _ E (λr=>by rw[<-fi,c]) (Z (KS _) (gm E b))):bB (h.o (A.R k t)) (Obj.toL Q h))
theorem Gu(q:newList [V.aA [.int u,.int v]] Q h):pQ .e' [.aA (ae [u]),.aA (ae [v])] Q h:=q
theorem d0(q:dH [] [] Q h):ai.Ex.wp G1 C (.dict [] []) b Q h:=ab (a:=[]) rfl q
theorem IA{a b c:Nat}(h:2*a+(b+1)<=c):2*a+b<c:=h
theorem BL{a A b c:Nat}(h:2*a+b<c)(p:A+1<=a):2*A+(b+1)<c:=bM (lN _ _ _ _) 0x113111382723913113182a239231137a rfl h p
theorem tg{a A b c:Nat}(h:2*a+b<c)(p:A+1<=a):2*A+b<c:=bM (lN _ _ _ _) 0x113182723913113182a239231137a rfl h p
theorem AW{S:Int->Bool}{c:Int}:Fd up (aH S c true) r↔(r≠0/\∃p,up c=U (p,U r))\/Fd up S r:=by
 constructor
 ·rintro q;refine ay q λn R=>eB R λd p s e=>?_
  clear R q;rcases iF.mp s with rfl |s
  ·exact .inl ⟨n,p,e⟩
  ·exact .inr ⟨n,d,p,s,e⟩
 ·rintro(⟨n,p,e⟩ |⟨n,d,p,s,e⟩)
  ·exact⟨n,c,p,iF.mpr (.inl rfl),e⟩
  ·exact⟨n,d,p,iF.mpr (.inr s),e⟩
theorem wM{up:Up}{S:Int->Bool}{c r:Int}(h:∀p,up c=U (p,U r)->r≠0->False):Fd up (aH S c true) r↔Fd up S r:=by exact iR AW ⟨λq=>q.elim (λ⟨n,p,e⟩=>(h p e n).elim) id,.inr⟩
theorem BN{S:Int->Bool}{P:List Int}{g:Int->Option V}{c:Int}{m:Nat}{Po:PS}(H:ah A M)(W:hO M.up)(X:XS A M a b h d S w (c::P) g)(B:2*D6 S+w.length<m)(I:m<=19)
  (q:∀h' i S' x g' J y,XS A M a b h' i S' x P g'->2*D6 S'+x.length<m->Po .next (EL i a b x6 x7 (U (.int c)) J y) h'):St.bh G1 (a5 G1 T1 (n+1)) JY (EL d a b x6 x7 (U (.int c)) x9 x10) Po h:=by
 refine fS X.R X.s (Z (wu _ _) ?_);induction z:S c with
 |true=>exact bH rfl (q _ _ _ _ _ _ _ ⟨X.R,X.F,X.w,X.s,X.f,X.g,X.x.skip z⟩ B)
 |false=>
  obtain⟨⟨p,D⟩,e⟩:=X.x.pn c KX;obtain⟨N,G⟩:=W.nn _ _ e;have C:=Cf z N;refine bW rfl (cF X.R X.s (aR N) λL R=>?_);rw[yU] at R;have F:Fr pX A (d.set 19 0 (.dI ar (sB (aH S c true)))):=X.F.trans (.set rfl);have f:=H.fr F;refine b8 R f rfl f.up (v:=gU (p,D)) (congrArg (NH gU) e) ⟨rfl,aX rfl,aX rfl,?_⟩;induction D with
  |none=>
   refine cR (W.ag c p e) λu v o s t=>ab (aq (A:=d.set 19 0 _) R X.w) ⟨rfl,bj R f rfl (pi R f rfl gp (a1 rfl (jm R f N (Z (iO o) (bj R f rfl (pi R f rfl gp (a1 rfl (jm R f G (Z (iO s) (ax (Gu (bz (by refine(?_ :1<=aN);decide) (ax ⟨aq (A:=d.set 19 0 _) R X.w,iT (A:=d.set 19 0 _) R X.w (λe=>nomatch e) (ys:=[b' (u,v)]) rfl ?_ λK k=>?_⟩)))))))))))))⟩;·exact Z (KS _) (KQ (Lp (KQ (Ng _ _) (KQ (LJ B) I))) (by decide))
   ·exact q _ ((d.set 19 0 _).set 18 0 _) (aH S c true) (w++[(u,v)]) g _ _ ⟨k,F.trans (.set rfl),by simp only[Lm];rfl,rfl,X.f,λr=>(X.g r).trans (wM λp E _=>by replace E:=e▸E;cases E).symm,X.x.arg e o s (aZ o).2 (aZ s).2 t⟩ (by rw[KW];exact BL B C)
  |some r=>
   by_cases l:r=0;·exact po (a:=r) (b:=0) l (q _ (d.set 19 0 _) (aH S c true) w g _ _ ⟨R,F,X.w,rfl,X.f,λj=>(X.g j).trans (wM λp E n=>by replace E:=e▸E;cases E;exact n l).symm,X.x.je e⟩ (tg B C))
   ·refine my (a:=r) (b:=0) l (cF (A:=d.set 19 0 _) R X.f (vB N e) λK k=>q _ ((d.set 19 0 _).set 20 0 _) (aH S c true) w _ _ _ ⟨k,F.trans (.set rfl),X.w,rfl,rfl,λj=>?_,X.x.je e⟩ (tg B C))
    simp only[AW,<-X.g];show(if j=r then U (V.bool true) else g j).isSome=true↔_;by_cases c:j=r
    ·clear k G;subst c;rw[if_pos rfl]
     exact⟨λ_=>.inl ⟨l,p,e⟩,λ_=>rfl⟩
    ·rw[if_neg c]
     exact⟨.inr,λq=>q.elim (λ⟨_,_,E⟩=>by replace E:=e▸E;clear q;cases E;exact(c rfl).elim) id⟩
theorem Fk{S:Int->Bool}{g:Int->Option V}{m:Nat}{Po:PS}(H:ah A M)(W:hO M.up)(X:XS A M a b h i S w l g)(B:2*D6 S+w.length<m)(p:m<=19)
  (q:∀h' d S' j g' r o y,XS A M a b h' d S' j [] g'->2*D6 S'+j.length<m->Po .next (EL d a b x6 x7 r o y) h'):∃k,dr (λv f Q h=>Tg.wp G1 (a5 G1 T1 (n+1)) (.var 8) v f Q h) (λf Q h=>St.bh G1 (a5 G1 T1 (n+1)) JY f Q h) k (.bo (ae l)) (EL i a b x6 x7 x8 x9 x10) Po h:=by
 refine iz (XF A M a b m x6 x7) (λL N f s K I t=>?_) (λf s I=>?_) _ ⟨i,S,w,l,g,_,_,_,rfl,rfl,X,B⟩
 ·obtain⟨u,S,w,P,g,x8,x9,x10,e,E,x,B⟩:=I
  cases P with
  |nil=>cases e
  |cons c P=>
  obtain⟨rfl,rfl⟩:=LR e;subst E;exact⟨aX rfl,BN H W x B p λR z C D G o y F J=>t _ _ ⟨z,C,D,P,G,_,_,_,rfl,rfl,F,J⟩⟩
 ·obtain⟨u,S,w,P,g,x8,x9,x10,e,E,x,B⟩:=I
  subst E;cases P with
  |cons=>cases e
  |nil=>exact q _ _ _ _ _ _ _ _ x B
theorem hS(R:AR h A)(H:ah A M)(W:hO M.up)(N:aj a)(p:aj b)(rt:M.Y a=M.Y b)(mt:∃m,a6 M.up a m/\a6 M.up b m)
  (q:∀h' i l,AR h' i->ah i M->Fr pX A i->d5 M.up a b l->l.length<=9->Q (.fl (ae l)) h'):cw (n+2) "explain" [Me,.int a,.int b] Q h:=by
 refine ab tu ⟨rfl,b8 R H rfl H.Y (rd N) (b8 R H rfl H.Y (rd p) (po rt ⟨(by decide:2<=aN),c6 18 0 (xs:=[b' (a,b)]) R (by refine(?_ :1<=aN);decide) λC h1 D=>?_⟩))⟩;refine d0 (mY 19 0 ar D (aX rfl) λE h2 G=>d0 (mY 20 0 (q6 M.up) G (K6 (ny _) (by decide)) λJ h3 P=>⟨(by decide:3<=aN),rfl,aX rfl,aX rfl,aX rfl,h8 (XW A M a b) (λm O h4 K I k=>?_) (m:=19) ⟨((A.new 18 0 C _).new 19 0 E _).new 20 0 J _,λ_=>false,[(a,b)],λ_=>KT,_,_,_,_,_,rfl,⟨P,.trans (.trans (.new rfl) (.new rfl)) (.new rfl),rfl,rfl,rfl,λr=>⟨λe=>(nomatch e),λ⟨_,_,_,e,_⟩=>(nomatch e)⟩,Xp.start N p mt⟩,((K9 _:2*9+1<=19)),K9 _⟩⟩));obtain⟨s,S,c,g,x6,x7,x8,x9,x10,T,X,b4,B⟩:=I;subst T;have lw:(c.map b').length<=19:=Z (KS _) (KQ (Ng _ _) (KQ b4 B));refine cD X.R X.w ⟨KQ lw (by decide),aS ?_⟩;rcases QW c with e |⟨c,w,e⟩
 ·clear lw b4;subst e
  refine ab (a:=false) rfl (bH rfl (Eg X.R X.f λl V l2 L=>?_));have L:=KQ L (ny _);exact bz (Z (bb _) (KQ L (by decide))) (ax (hj (K6 L (by decide)) ⟨_,_,.refl,q _ _ _ X.R (H.fr X.F) X.F (X.x.out (mT V) λr=>(hB r l).trans ((l2 r).trans (X.g r))) (Z (iu _) L)⟩))
 ·replace e:=QY▸e
  subst e;obtain⟨u,v⟩:=w;have d:=X.w;replace d:=Lm▸d;replace b4:=KW▸b4;have j:(c.map b').length<aN:=by rw[KS] at lw⊢;replace lw:=KW▸lw;exact Li lw (by decide)
  refine ab (a:=true) (congrArg U (decide_eq_true (by(refine Z (KS _) (Z KW ?_));exact Sn.mpr (M4 _)):decide ((0:Int)<(((c++[(u,v)]).map b').length:Nat))=true)) (bW rfl (ab (aq X.R d) ⟨rfl,aq X.R d,pY X.R d j λh5 x=>(vV rfl (aX rfl) (aX rfl) (?_))⟩));have F:Fr pX A (s.set 18 0 (.list (c.map b'))):=X.F.trans (.set rfl);have y:ah (s.set 18 0 (.list (c.map b'))) M:=H.fr F;refine cH (X.x.mt (u,v) (Ld _ (Lo _))) λnu nv t=>bX x y rfl km (a2 rfl rfl (oV x y W nu nv t λh6 A6 l R6 f hl ll=>ab (a:=.bo (ae l)) rfl ?_));have:=Fk (n:=n) (x6:=U (.int u)) (x7:=U (.int v)) (x8:=x8) (x9:=x9) (x10:=x10) (Po:=Fl.seq K (Fl.seq (n6 (St.bh G1 (a5 G1 T1 (n+1)) (cK.body.drop 3)) (Fl.cU Q)) (Fl.cU Q))) H W ⟨R6,F.trans (f.bT EP),(f 18 0 rfl).1.trans rfl,(f 19 0 rfl).1.trans X.s,(f 20 0 rfl).1.trans X.f,X.g,X.x.pop W.ac hl⟩ b4 B λh' o S' W' g' y8 y9 aa X' z=>k _ z _ _ ⟨o,S',W',g',_,_,_,_,_,rfl,X',K9 _,KQ (LJ z) B⟩;unfold EL at this;simp only[cL f (k:=18) rfl,cL f (k:=19) rfl,cL f (k:=20) rfl] at this;exact this
theorem k4(l:List Int)(r:Int):(eA l r).length<=l.length+1:=by
 unfold eA;split;·exact LN _
 ·exact Z (iu _) (Z KW (K9 _))
theorem yy(a b:List Int):(gq a b).length<=a.length+b.length:=by unfold gq;exact Z (iu _) (Z KW (L2 (Nj _ _) _))
def oI(up:Up)(a b:Int):Prop:=∃m,a6 up a m/\a6 up b m
noncomputable def JM(s:Int)(x y z:Option V):aV:=[U Me,U (.int s),x,y,z]
theorem IF(R:AR h A)(H:ah A M)(W:hO M.up)(N:aj s)(f:∀p∈M.bl s,aj p.1/\aj p.2.1)(g:∀p∈M.bl s,M.Y p.1=M.Y p.2.1->oI M.up p.1 p.2.1)
  (q:(∀p∈M.bl s,M.Y p.1≠M.Y p.2.1)->Q .none h)(i:∀h' a l,AR h' a->ah a M->Fr pX A a->(∃p∈M.bl s,M.Y p.1=M.Y p.2.1)->l.length<=10->Q (.fl (ae l)) h'):
  cw (n+3) "torn" [Me,.int s] Q h:=by
 refine ab zN ⟨rfl,b8 R H rfl H.bl (j3 N) (ab (cW R (H.ec s N)) (p' (L:=M.bl s) (λd _=>∀p∈d,M.Y p.1≠M.Y p.2.1) (JM s) (R.ip (H.ec s N)) (λd p D x y z K e hd k=>?_) (λx y z hd=>⟨_,_,.refl,q hd⟩) λ_ m=>(nomatch m)))⟩;have P:p∈M.bl s:=Z e (Ld _ KX);have n:=f p P;refine⟨rfl,aX rfl,aX rfl,aX rfl,b8 R H rfl H.Y (rd n.1) (b8 R H rfl H.Y (rd n.2) ?_)⟩;by_cases c:M.Y p.1=M.Y p.2.1;·exact kl c (bX R H rfl fE (bX R H rfl dB (a2 rfl rfl (hS R H W n.1 n.2 c (g p P c) λt u l r j F v b=>a1 rfl (i1 (K6 b (by decide)) ⟨_,_,.refl,i _ _ _ r j F ⟨p,P,c⟩ (KQ (k4 _ _) (Lp b))⟩)))))
 ·exact js c (k _ _ _ λo m=>(K8.mp m).elim (hd o) λm=>KU.mp m▸c)
theorem pd(R:AR h A)(H:ah A M)(W:hO M.up){c:Int×Int×Int}(N:aj a)(B:aj b)(f:aj c.1)(g:aj c.2.1)(i:M.Y a=M.Y c.1)(k:M.Y b=M.Y c.2.1)(m:oI M.up a c.1)(o:oI M.up b c.2.1)
  (q:∀h' d l L,AR h' d->ah d M->Fr pX A d->d5 M.up a c.1 l->d5 M.up b c.2.1 L->(eA (gq l L) c.2.2).length<=19->Q (.fl (ae (eA (gq l L) c.2.2))) h'):
  cw (n+3) "explain_cause" [Me,.int a,.int b,ii c] Q h:=by
 refine ab j4 (Je rfl rfl (aX rfl) (aX rfl) (aX rfl) (bX R H rfl fE (bX R H rfl vJ (bX R H rfl dB (a2 rfl rfl (hS R H W N f i m λx y l r e F p s=>bX r e rfl dB (a2 rfl rfl (hS r e W B g k o λz C L t u v w S=>?_))))))));have j:=KQ (yy l L) (Pe s S);exact ax (rJ (K6 (Pe s S) (by decide)) (a1 rfl (i1 (K6 j (by decide)) ⟨_,_,.refl,q _ _ _ _ t u (F.trans v) p w (KQ (k4 _ _) (Lp j))⟩)))
theorem mi(R:AR h A)(H:ah A M)(W:hO M.up){a b:Int}(s:M.aC t=U (a,b))(T:M.a7 t=U KT)(N:aj a)(B:aj b)(rt:M.Y a=M.Y b)(mt:oI M.up a b)
  (q:∀h' c l,AR h' c->ah c M->Fr pX A c->d5 M.up a b l->l.length<=9->Q (.fl (ae l)) h'):cw (n+3) "explain_told" [Me,.int t] Q h:=by
 refine ab hr ⟨rfl,b8 R H rfl H.aC (v:=b' (a,b)) (by refine Z s ?_;rfl) ⟨rfl,aX rfl,aX rfl,b8 R H rfl H.a7 (v:=fb KT) (by refine Z T ?_;rfl) (vV rfl (aX rfl) (aX rfl) (?_))⟩⟩;refine bX R H rfl dB (a2 rfl rfl (hS R H W N B rt mt λe g l r d f o S=>⟨_,_,.refl,q _ _ _ r d f o S⟩))
theorem mC(R:AR h A)(H:ah A M)(W:hO M.up){a b:Int}{c:Int×Int×Int}(s:M.aC t=U (a,b))(T:M.a7 t=U (U c))(N:aj a)(B:aj b)(e:aj c.1)(f:aj c.2.1)(r:M.Y a=M.Y c.1)(g:M.Y b=M.Y c.2.1)
  (m:oI M.up a c.1)(i:oI M.up b c.2.1)(q:∀h' d l L,AR h' d->ah d M->Fr pX A d->d5 M.up a c.1 l->d5 M.up b c.2.1 L->(eA (gq l L) c.2.2).length<=19->Q (.fl (ae (eA (gq l L) c.2.2))) h'):
  cw (n+4) "explain_told" [Me,.int t] Q h:=by
 refine ab hr ⟨rfl,b8 R H rfl H.aC (v:=b' (a,b)) (by refine Z s ?_;rfl) ⟨rfl,aX rfl,aX rfl,b8 R H rfl H.a7 (v:=fb (U c)) (by refine Z T ?_;rfl) (vV rfl (aX rfl) (aX rfl) (?_))⟩⟩;refine bX R H rfl ks (a3 rfl rfl rfl (pd R H W N B e f r g m i λu w l L j k F o p S=>⟨_,_,.refl,q _ _ _ _ j k F o p S⟩))
noncomputable def md(A:AH)(k:Nat)(t:Int):AH:=⟨A.st,λK T=>if K=k/\T=t then KT else A.o K T,A.vr,A.nn⟩
theorem drop(R:AR h A)(k:Nat)(t:Int):AR (h.drop (A.R k t)) (md A k t):=Sd (λK T a e=>by
 by_cases c:K=k/\T=t
 ·have e:(if K=k/\T=t then KT else A.o K T)=U a:=e
  rw[if_pos c] at e;exact al e
 ·have e:(if K=k/\T=t then KT else A.o K T)=U a:=e
  rw[if_neg c] at e;refine ay (R.1 K T a e) λb E=>?_;obtain⟨x,d,f⟩:=b;exact⟨⟨x,(if_neg (Aq c)).trans d,f⟩,E⟩) R.2
theorem Fr.md{p:Nat->Bool}{k:Nat}{t:Int}(e:p k=false):Fr p A (md A k t):=λK T E=>by
 have:¬(K=k/\T=t):=λq=>by replace E:=e▸q.1▸E;exact aK E
 exact⟨if_neg this,rfl,rfl⟩
theorem Dq(k:Nat)(h:pL k=true):I8 k=true:=by
 unfold pL at h;unfold I8;have c:∀j,LS 30 j=false->(LS 24 j&&LS j 30)=false->Ly k j=false:=λj a b=>by
  induction q:Ly k j with
  |false=>rfl
  |true=>replace h:=b▸a▸(Mc q)▸h;exact aK h
 refine Z (c 11 rfl rfl) (Z (c 30 rfl rfl) ?_);rfl
noncomputable def tr:Option (Int×Int×Int)->Int
 |none=>1
 |some _=> -1
noncomputable def uS(p:Int×Int):V:=.aA [.int p.1,.int p.2]
def BH(M:Hs)(l:List (Int×Int)):Prop:=(l.map (·.1)).Nodup/\∀e∈l,e.1∈M.a4/\∃c,M.a7 e.1=U c/\e.2=tr c
noncomputable def ya(A:AH)(x:Option V):aV:=[U Me,U (.ref (A.R 16 0)),U (.ref (A.R 17 0)),x]
inductive JI(A:AH)(M:Hs)(l:List V)(b:aV)(h:Hp):Prop
 |mk (a:AH) (S:Int->Bool) (out:List (Int×Int)) (x:Option V) (d9:b=ya a x) (R:AR h a) (F:Fr pX A a) (o:a.o 16 0=U (.list (out.map uS))) (d:a.o 17 0=U (.dI fw (sB S))) (s:∀t,S t=true↔t∈out.map (·.1)) (out:BH M out)
theorem BH.add{l:List (Int×Int)}(o:BH M l){t:Int}{c:Option (Int×Int×Int)}(mt:t∈M.a4)(E:M.a7 t=U c)(n:t∉l.map (·.1)):BH M (l++[(t,tr c)]):=by exact⟨Z Lm (Mj.mpr ⟨o.1,Ll.mpr ⟨MU,Mw⟩,λa A b B e=>n ((KU.mp B:b=t)▸(e▸A:b∈_))⟩),λe m=>(K8.mp m).elim (o.2 e) λm=>KU.mp m▸⟨mt,c,E,rfl⟩⟩
theorem BH.cQ{l:List (Int×Int)}(o:BH M l)(h:∀t∈M.a4,t∈fw):l.length<=3:=
 KQ (K2 (KS _).symm) (hk (u:=fw) o.1 λx m=>(LG.mp m).elim λe w=>hR w.2 (h _ (o.2 e w.1).1))
theorem Cv{S:Int->Bool}{out:List (Int×Int)}{t:Int}{v:Int}(s:∀t,S t=true↔t∈out.map (·.1))(y:Int):aH S t true y=true↔y∈(out++[(t,v)]).map (·.1):=by simp only[iF,s,Lm,K8];exact⟨λh=>h.elim (λe=>.inr (Z e (Lo _))) .inl,λh=>h.elim .inr λm=>.inl (KU.mp m)⟩
theorem Dj{P:PS}(R:AR h A)(H:ah A M){S:Int->Bool}{out:List (Int×Int)}{t:Int}{c:Option (Int×Int×Int)}(T:t∈fw)(e:M.a7 t=U c)(l:out.length<=3)(o:A.o 16 0=U (.list (out.map uS)))(d:A.o 17 0=U (.dI fw (sB S)))
  (q:∀h' a,AR h' a->Fr pX A a->a.o 16 0=U (.list ((out++[(t,tr c)]).map uS))->a.o 17 0=U (.dI fw (sB (aH S t true)))->P .next (ya a (U (.int t))) h'):
  St.bh G1 (a5 G1 T1 n) [.a8 (.sub (.var 2) (.var 3)) (.aE (.bool true)),.expr (.az (.var 1) "append" [.aA [.var 3,.sub (.sub (.ao (.var 0) "told") (.var 3)) (.aE (.int 0))]])] (ya A (U (.int t))) P h:=by
 refine cF R d T λg r=>?_;rw[yU] at r;have f:Fr pX A (A.set 17 0 (.dI fw (sB (aH S t true)))):=.set rfl;have b:=H.fr f;refine ab (aq (A:=A.set 17 0 _) r o) ⟨rfl,b8 r b rfl b.a7 (v:=fb c) (by refine Z e ?_;rfl) ?_⟩;have s:lu g (fb c) (.int 0)=U (.int (tr c)):=by clear q e;induction c<;>rfl
 exact ab s ⟨(by decide:2<=aN),aq (A:=A.set 17 0 _) r o,bJ (A:=A.set 17 0 _) r o (Z (KS _) (K6 l (by decide))) λj i=>q _ ((A.set 17 0 _).set 16 0 _) i (f.trans (.set rfl)) (by refine Z Lm ?_;rfl) rfl⟩
theorem B0(R:AR h A)(H:ah A M)(T:∀t∈M.a4,t∈fw)(q:∀h' g l,AR h' g->ah g (M.eH [])->Fr pL A g->BH M l->Q (.fl (l.map uS)) h'):cw (n+1) "implied" [Me] Q h:=by
 refine ab sj ⟨rfl,c6 16 0 (xs:=[]) R (Lf _) λB h1 C=>d0 (mY 17 0 fw C (aX rfl) λD h2 i=>⟨(by decide:2<=aN),rfl,aX rfl,aX rfl,?_⟩)⟩;have p:Fr pX A ((A.new 16 0 B (.list [])).new 17 0 D (.dI fw λ_=>KT)):=.trans (.new rfl) (.new rfl);have u:=H.fr p;refine bj i u rfl (ab (cW i u.a4) (iN (xs:=ae M.a4) (JI A M) ?_ ?_ ?_ ⟨_,λ_=>false,[],_,rfl,i,p,rfl,rfl,λt=>⟨λe=>(nomatch e),λe=>(nomatch e)⟩,Mw,λ_ e=>(nomatch e)⟩))
 ·intro l w h' J
  obtain⟨a,S,out,x,d9,r,f,b,d,s,o⟩:=J;exact(cL f rfl:a.R 11 0=A.R 11 0)▸r.ip (H.fr f).a4
 ·intro v l w G K V J k
  obtain⟨a,S,out,x,d9,r,f,b,d,s,o⟩:=J;refine aD (LG.mp V) λt mt E=>?_;clear V;subst E;subst d9;have j:=H.fr f;refine⟨aX rfl,bj r j rfl (qZ r j.a7 ?_)⟩;induction y:M.a7 t with
  |none=>exact bH rfl (k _ _ ⟨a,S,out,_,rfl,r,f,b,d,s,o⟩)
  |some c=>
   refine bW rfl (fS r d (Z (wu _ _) ?_));induction I:S t with
   |true=>exact bH rfl (k _ _ ⟨a,S,out,_,rfl,r,f,b,d,s,o⟩)
   |false=>exact bW rfl (Dj r j (T t mt) y (o.cQ T) b d λh5 L N P W X=>k _ _ ⟨L,aH S t true,_,_,rfl,N,f.trans P,W,X,Cv s,o.add mt y λm=>L9 (I.symm.trans ((s t).mpr m))⟩)
 ·intro w G J
  obtain⟨a,S,out,x,d9,r,f,b,d,s,o⟩:=J;subst d9;exact wB (l:=[]) r (H.fr f) (Lf _) λh4 A4 z H4 F=>Z (show ya a x=ya A4 x by unfold ya;exact Z (cL F rfl) (Z (cL F rfl) rfl)) (⟨_,_,.dZ (z.ip ((F 16 0 rfl).1.trans b)),q _ _ _ (drop z 16 0) (H4.fr (.md rfl)) (((f.bT qe).trans (F.bT Dq)).trans (.md rfl)) o⟩)
theorem rv(h:pL k=true)(a:pL j=false):Ly k j=false:=by
 induction q:Ly k j with
 |false=>rfl
 |true=>replace h:=a▸(Mc q)▸h;exact aK h
noncomputable def p1(k:Nat):Bool:=!(Ly k 1)
theorem Ja(k:Nat)(h:pL k=true):p1 k=true:=by unfold p1;refine Z (rv h (j:=1) rfl) ?_;rfl
noncomputable def ey(l:List Int)(v:Int)(f:Int->Int):Int->Int:=l.foldl (λf t=>aH f t v) f
theorem tN(l:List Int)(t v:Int)(f:Int->Int):ey (l++[t]) v f=aH (ey l v f) t v:=Nk
theorem jg(v:Int)(x:Int):∀(l:List Int) (f:Int->Int),ey l v f x=if x∈l then v else f x:=by
 intro l;induction l with
 |nil=>intro f;rfl
 |cons a l i=>
  intro f;show ey l v (aH f a v) x=_;rw[i];by_cases c:x∈l;·(refine Z (if_pos c) ?_;rw[if_pos (K1 _ c)])
  ·rw[if_neg c]
   by_cases e:x=a;·subst e;rw[M.aP,if_pos KX]
   ·exact Z (M.aI _ _ e) (Z (if_neg λm=>(KZ.mp m).elim e c) rfl)
theorem d6{a:aV}{i j:Nat}(h:j≠i):(a.set i y)[j]? =a[j]? :=O5 λe=>h e.symm
theorem hh{a:aV}{i:Nat}(h:i<a.length):(a.set i y)[i]? =U y:=Z (OM h) rfl
inductive IL(f:aV)(i:Nat)(L:List Int)(B:List Int->AH->Prop)(l:List V)(a:aV)(h:Hp):Prop
 |mk (A:AH) (c d:List Int) (y:Option V) (E:l=ae d) (d9:a=f.set i y) (e:L=c++d) (R:AR h A) (b:B c A)
variable {C:Ctx} {J:aV}
section
variable {i:Nat} {L:List Int} {bd:List St} {P:PS} {B:List Int->AH->Prop}
theorem IL.go(H:i<J.length)(step:∀A t c f h' (K:aV->Hp->Prop),L=A++t::c->B A f->AR h' f->(∀h d,AR h d->B (A++[t]) d->K (J.set i (U (.int t))) h)->St.bh G1 C bd (J.set i (U (.int t))) (Fl.seq K P) h')
  (v:V)(l:List V)(a:aV)(h':Hp)(K:aV->Hp->Prop)(I:IL J i L B (v::l) a h')(k:∀a h',IL J i L B l a h'->K a h'):Tg.wp G1 C (.var i) v a (n6 (St.bh G1 C bd) (Fl.seq K P)) h':=by
 obtain⟨f,A,c,y,E,d9,e,r,b⟩:=I;subst d9;cases c with
 |nil=>exact(nomatch E)
 |cons t c=>obtain⟨rfl,rfl⟩:=LR E;exact⟨Z (Mt ..) H,Z (S2 _) (step A t c f h' K e b r λm g R j=>k _ _ ⟨g,A++[t],c,_,rfl,rfl,e.trans (RT A t c),R,j⟩)⟩
theorem IL.cU(cU:∀A h' y,B L A->AR h' A->P .next (J.set i y) h')(a:aV)(h':Hp)(I:IL J i L B [] a h'):P .next a h':=by
 obtain⟨A,l,c,y,E,d9,e,r,b⟩:=I;subst d9;induction c using LP with
 |cons=>exact(nomatch E)
 |nil=>exact cU A h' y (e.trans (Lk l)▸b) r
theorem i8(B:List Int->AH->Prop)(I:i<J.length)(step:∀l t d a h' (K:aV->Hp->Prop),L=l++t::d->B l a->AR h' a->(∀H c,AR H c->B (l++[t]) c->K (J.set i (U (.int t))) H)->St.bh G1 C bd (J.set i (U (.int t))) (Fl.seq K P) h')
  (cU:∀a h' y,B L a->AR h' a->P .next (J.set i y) h')(R:AR h A)(b:B [] A):∃n,dr (λv J Q h=>Tg.wp G1 C (.var i) v J Q h) (λJ Q h=>St.bh G1 C bd J Q h) n (.bo (ae L)) J P h:=
 iz (IL J i L B) (IL.go I step) (IL.cU cU) _ ⟨A,[],L,J[i],rfl,(QV I).symm,rfl,R,b⟩
theorem yu{r:cq}(B:List Int->AH->Prop)(e:i<J.length)(same:∀c a h',B c a->AR h' a->h'.o r=U (.list (ae L)))(step:∀c t f a h' (K:aV->Hp->Prop),L=c++t::f->B c a->AR h' a->(∀H d,AR H d->B (c++[t]) d->K (J.set i (U (.int t))) H)->St.bh G1 C bd (J.set i (U (.int t))) (Fl.seq K P) h')
  (cU:∀a h' y,B L a->AR h' a->P .next (J.set i y) h')(R:AR h A)(b:B [] A):∃n,dr (λv J Q h=>Tg.wp G1 C (.var i) v J Q h) (λJ Q h=>St.bh G1 C bd J Q h) n (.c0 r 0) J P h:=
 iN (IL J i L B) (λl g h' I=>match I with |⟨a,c,_,_,_,_,_,j,b⟩=>same c a h' b j) (λv l J h' K _=>IL.go e step v l J h' K) (IL.cU cU) ⟨A,[],L,J[i],rfl,(QV e).symm,rfl,R,b⟩
end
theorem qO{i k:Nat}{P:PS}(I:i<J.length)(d:0≠i)(f:k≠i)(E:(J[0]?).join=U Me)(g:(J[k]?).join=U (.int x))(R:AR h A)(H:ah A M)(N:aj s)(nm:∀t∈M.mem s,aj t)
  (q:∀h' c y,AR h' c->ah c (M.j' (ey (M.mem s) x M.Y))->Fr pL A c->P .next (J.set i y) h'):
  ∃n,dr (λv J Q h=>Tg.wp G1 C (.var i) v J Q h) (λJ Q h=>St.bh G1 C [.a8 (.sub (.ao (.var 0) "root") (.var i)) (.var k)] J Q h) n (.c0 (A.R 21 s) 0) J P h:=by
 refine yu (λl c=>ah c (M.j' (ey l x M.Y))/\Fr p1 A c) I (λl c h' b r=>hR (cL b.2 rfl:c.R 21 s=A.R 21 s) (r.ip (b.1.fp s N))) (λl t L c h' K e b r k=>ab (a:=.int x) (by rw[d6 f];exact g) (ab (a:=Me) (Z (d6 d) E) ?_)) (λc h' y b r=>q _ _ y r b.1 (b.2.bT Ja)) R ⟨H,.refl⟩;refine bj r b.1 rfl (ab (a:=.int t) (by refine Z (hh I) ?_;rfl) (cF r b.1.Y (aR (nm t (Z e (Ld _ KX)))) λm j=>k _ _ j ⟨?_,b.2.trans (.set rfl)⟩));simp only[tN];exact b.1.Dh (kn (nm t (Z e (Ld _ KX))))
theorem lL{v:V}{P:V->Prop}(R:AR h A)(S:A.o 30 0=U (.dS fs))(s:A.st 30 0=sN)(e:bc fs f=U v)(q:P v):bB (ai.bC h ⟨30,0,sN⟩) (tX f P):=by have:=Bm R S e q;rwa[show A.R 30 0=⟨30,0,sN⟩ from congrArg (cq.mk 30 0) s] at this
theorem kb{m:Nat}(n:aj t):ft (jD A k) t (U (.ref ⟨k,t,m⟩))=jD (A.new k t m a) k:=by
 funext x;refine(?_ :(if x=t then _ else(if aj x then U (V.ref ⟨k,x,A.st k x⟩) else KT))=(if aj x then U (V.ref ⟨k,x,if k=k/\x=t then m else A.st k x⟩) else KT));by_cases c:x=t;·subst c;exact Z (if_pos rfl) (Z (if_pos n) (Z (if_pos ⟨rfl,rfl⟩) rfl))
 ·exact Z (if_neg c) (Z ((if_neg λe=>c e.2:(if k=k/\x=t then m else A.st k x)=A.st k x)) rfl)
theorem fT{a:Nat}(h:a<=aN):(a:Int)<=mD:=MI (MS.mpr h) (by decide)
theorem tk{b:Type}{l:List b}{a:Nat}(h:a<=aN):(l.take a).length<=aN:=Z MH (KQ (Qg _ _) h)
theorem mU(l:List Int)(a:Nat):(ae l).take a=ae (l.take a):=by unfold ae;exact Z NJ rfl
theorem EI{b:Type}(f:b->V)(l:List b)(a:Nat):(l.map f).take a=(l.take a).map f:=Z NJ rfl
theorem Fh{C:Ctx}{a:Nat}{P:Hp->Prop}(R:AR h A)(H:ah A M)(N:aj l)(b:a<=aN)(q:∀h' d,AR h' d->ah d (M.nZ l ((M.mem l).take a))->Fr pL A d->P h'):
  bB (lu h (.ref (A.R 2 0)) (.int l)) λv=>bB (ca h v) λxs=>bB (V.int a).fF λn=>0<=n/\n<=mD/\newList (xs.take n.toNat) (λv h=>bB (ai.bC h ⟨30,0,sN⟩) λfs=>bB (bc fs "members") λc=>gy h c (.int l) v P) h:=by
 exact cI R H.mem (j3 N) (ia (C:=C) (bU R (H.fp l N)) (fT b) (c6 21 l R (tk b) λm f r=>lL r (fs:=ai.L1.bC A M) H.self H.sn rfl (cF (A:=A.new 21 l m _) r (k:=2) (t:=0) H.mem (aR N) λg e=>q _ _ e (H.Ec (mU _ _) (kb N)) (.trans (.new rfl) (.set rfl)))))
theorem Cr{C:Ctx}{a:Nat}{P:Hp->Prop}(R:AR h A)(H:ah A M)(N:aj l)(b:a<=aN)(q:∀h' d,AR h' d->ah d (M.gM l ((M.aM l).take a))->Fr pL A d->P h'):
  bB (lu h (.ref (A.R 3 0)) (.int l)) λv=>bB (ca h v) λxs=>bB (V.int a).fF λn=>0<=n/\n<=mD/\newList (xs.take n.toNat) (λv h=>bB (ai.bC h ⟨30,0,sN⟩) λfs=>bB (bc fs "uses") λc=>gy h c (.int l) v P) h:=by
 exact cI R H.aM (j3 N) (ia (C:=C) (bU R (H.c8 l N)) (fT b) (c6 22 l R (tk b) λm f r=>lL r (fs:=ai.L1.bC A M) H.self H.sn rfl (cF (A:=A.new 22 l m _) r (k:=3) (t:=0) H.aM (aR N) λg e=>q _ _ e (H.C8 (mU _ _) (kb N)) (.trans (.new rfl) (.set rfl)))))
theorem EA{C:Ctx}{a:Nat}{P:Hp->Prop}(R:AR h A)(H:ah A M)(N:aj l)(b:a<=aN)(q:∀h' d,AR h' d->ah d (M.hv l ((M.bl l).take a))->Fr pL A d->P h'):
  bB (lu h (.ref (A.R 5 0)) (.int l)) λv=>bB (ca h v) λxs=>bB (V.int a).fF λn=>0<=n/\n<=mD/\newList (xs.take n.toNat) (λv h=>bB (ai.bC h ⟨30,0,sN⟩) λfs=>bB (bc fs "apart") λc=>gy h c (.int l) v P) h:=by
 exact cI R H.bl (j3 N) (ia (C:=C) (bU R (H.ec l N)) (fT b) (c6 23 l R (tk b) λm f r=>lL r (fs:=ai.L1.bC A M) H.self H.sn rfl (cF (A:=A.new 23 l m _) r (k:=5) (t:=0) H.bl (aR N) λg e=>q _ _ e (H.Eo (EI ii _ _) (kb N)) (.trans (.new rfl) (.set rfl)))))
theorem FJ{C:Ctx}{a:Nat}{P:Hp->Prop}(R:AR h A)(H:ah A M)(N:aj l)(b:a<=aN)(q:∀h' d,AR h' d->ah d (M.mo l ((M.bK l).take a))->Fr pL A d->P h'):
  bB (lu h (.ref (A.R 6 0)) (.int l)) λv=>bB (ca h v) λxs=>bB (V.int a).fF λn=>0<=n/\n<=mD/\newList (xs.take n.toNat) (λv h=>bB (ai.bC h ⟨30,0,sN⟩) λfs=>bB (bc fs "watchers") λc=>gy h c (.int l) v P) h:=by
 exact cI R H.bK (j3 N) (ia (C:=C) (bU R (H.fW l N)) (fT b) (c6 24 l R (tk b) λm f r=>lL r (fs:=ai.L1.bC A M) H.self H.sn rfl (cF (A:=A.new 24 l m _) r (k:=6) (t:=0) H.bK (aR N) λg e=>q _ _ e (H.EN (mU _ _) (kb N)) (.trans (.new rfl) (.set rfl)))))
noncomputable def z0(M:Hs)(s l:Int)(a b c d:Nat)(v:Int):Hs:=(((((M.nZ l ((M.mem l).take a)).gM l ((M.aM l).take b)).hv l ((M.bl l).take c)).mo l ((M.bK l).take d)).sJ (aH M.val l v)).j' (ey (M.mem s) s M.Y)
theorem Jg(R:AR h A)(H:ah A M){a b c d:Nat}(S:aj s)(N:aj l)(z:s≠l)(nm:∀t∈M.mem s,aj t)(B:a<=aN)(D:b<=aN)(F:c<=aN)(b4:d<=aN)
  (q:∀h' g,AR h' g->ah g (z0 M s l a b c d v)->Fr pL A g->Q .none h'):cw (n+1) "part" [Me,.int s,.int l,.aA [.int a,.int b,.int c,.int d],.int v] Q h:=by
 refine ab zc ⟨rfl,bj R H rfl (Fh (C:=a5 G1 T1 n) R H N B λW X j k G=>bj j k rfl (Cr (C:=a5 G1 T1 n) j k N D λZ A2 o p I=>bj o p rfl (EA (C:=a5 G1 T1 n) o p N F λh3 A3 u w J=>bj u w rfl (FJ (C:=a5 G1 T1 n) u w N b4 λh4 A4 x i K=>bj x i rfl (cF x i.val (aR N) λh5 r=>?_)))))⟩;have e:=i.Al (f:=aH M.val l v) (kn (f:=M.val) (v:=v) N);have E:aH M.mem l ((M.mem l).take a) s=M.mem s:=ai.M.aI _ _ z;refine b8 r e rfl e.mem (j3 S) (ab (cW r (e.fp s S)) (qO (aX rfl) (by decide) (by decide) rfl rfl r e S (λt m=>nm t (hR E m)) λh6 L y P T V=>q _ _ P ?_ ((((G.trans I).trans J).trans K).trans (.trans (.set rfl) V))));have:ah L ((((((M.nZ l ((M.mem l).take a)).gM l ((M.aM l).take b)).hv l ((M.bl l).take c)).mo l ((M.bK l).take d)).sJ (aH M.val l v)).j' (ey (aH M.mem l ((M.mem l).take a) s) s M.Y)):=T;rwa[E] at this
inductive fy:e0->Hs->Hs->Prop
 |g3 {M:Hs} {m t}:M.bt m=U t->fy (.g3 m) M (M.hG (aH M.bt m KT))
 |jK {M:Hs} {m t}:m∈iQ->fy (.jK m t) M (M.hG (aH M.bt m (U t)))
 |join {M:Hs} {s l a b c d v}:aj s->aj l->s≠l->(∀t∈M.mem s,aj t)->a<=aN->b<=aN->c<=aN->d<=aN->fy (.join s l a b c d v) M (z0 M s l a b c d v)
 |oH {M:Hs} {l top p L r}:M.up l=U p->ik (aH M.up l KT)->(∀x p,aH M.up l KT x=U p->aj x/\aj p.1)->cn (aH M.up l KT) top L r->fy (.oH l top) M (M.BE (eO L (dG L (aH M.up l KT))))
 |apart {M:Hs} {a b xs x ys y}:aj a->aj b->M.bl a=xs++[x]->(M.hv a xs).bl b=ys++[y]->xs.length<aN->ys.length<aN->fy (.apart a b) M ((M.hv a xs).hv b ys)
 |a7 {M:Hs} {t c}:M.a7 t=U c->fy (.a7 t) M (M.qh (aH M.a7 t KT))
theorem dy{i:Nat}{t:String}{P:PS}(e:(J[i]?).join=U (.str s))(n:(s==t)=false)(q:St.bh G1 C b J P h):St.wp G1 C (.cG (.bV .eq (.var i) (.aE (.str t))) a b) J P h:=by exact ab e (aS ((Z n (q)):bB (U (s==t)) λt=>if t=true then _ else _))
theorem m4{i:Nat}{t:String}{P:PS}(e:(J[i]?).join=U (.str s))(n:(s==t)=true)(q:St.bh G1 C a J P h):St.wp G1 C (.cG (.bV .eq (.var i) (.aE (.str t))) a b) J P h:=by exact ab e (aS ((Z n q):bB (U (s==t)) λt=>if t=true then _ else _))
theorem sb{i:Nat}{v:V}(e:(J[i]?).join=U (.aA vs))(f:jr vs k=U v)(q:Q v h):Ex.wp G1 C (.sub (.var i) (.aE (.int k))) J Q h:=ab e (aS (ab f q))
theorem JG(R:AR h A)(H:ah A M){x y:V}(aa:fy e M w)(q:∀h' s,AR h' s->ah s w->Fr pL A s->Q .none h'):cw (n+2) "undo" [Me,e.v,x,y] Q h:=by
 refine ab zo ⟨rfl,?_⟩;cases aa with
 |g3 e=>refine⟨aX rfl,cx (dy rfl rfl (m4 rfl rfl (bj R H rfl (yQ R H.bt (dC _) (v:=.int _) (by refine((Z e ?_):(M.bt _).map V.int=_);rfl) λk d=>?_))))⟩;exact q _ _ d (H.lr (e6 KT)) (.set rfl)
 |@jK _ m t i=>exact⟨aX rfl,cx (dy rfl rfl (m4 rfl rfl (bj R H rfl (oB R H.bt (dC _) i λk d=>q _ _ d (H.lr (e6 (U t))) (.set rfl)))))⟩
 |join S z E nm C D F b4=>refine⟨aX rfl,cx (dy rfl rfl (dy rfl rfl (m4 rfl rfl (bX R H rfl zZ (sb rfl rfl (sb rfl rfl (sb rfl rfl ?_)))))))⟩;exact sb rfl rfl (ax (Jg R H S z E nm C D F b4 q))
 |@oH _ l top p L r e A0 G P=>refine⟨aX rfl,cx (dy rfl rfl (dy rfl rfl (dy rfl rfl (m4 rfl rfl (bj R H rfl (zV R H.up (v:=gU p) (by refine((Z e ?_):(M.up l).map gU=_);rfl) λk d=>?_))))))⟩;have g:=H.wZ (f:=aH M.up l KT) (dz KT);exact bX d g rfl sa (turn d g A0 G P λI A2 u J K=>q _ _ u J (.trans (.set rfl) K))
 |@apart _ a b xs x ys y N B T W X l2=>refine⟨aX rfl,cx (dy rfl rfl (dy rfl rfl (dy rfl rfl (dy rfl rfl (m4 rfl rfl (b8 R H rfl H.bl (j3 N) ?_))))))⟩;have o:=H.ec a N;replace o:=Lm▸T▸o;refine ab (aq R o) ⟨rfl,aq R o,pY R o (Z (KS _) X) λk d=>?_⟩;have g:=H.nY (t:=a) (l:=xs) rfl;refine b8 d g rfl g.bl (j3 B) ?_;have j:=g.ec b B;replace j:=Lm▸W▸j;exact ab (aq d j) ⟨rfl,aq d j,pY d j (Z (KS _) l2) λI u=>q _ _ u (g.nY (t:=b) (l:=ys) rfl) (.trans (.set rfl) (.set rfl))⟩
 |@a7 _ t c e=>refine⟨aX rfl,cx (dy rfl rfl (dy rfl rfl (dy rfl rfl (dy rfl rfl (dy rfl rfl (dy rfl rfl (bj R H rfl (zV R H.a7 (v:=fb c) (by refine(?_ :(M.a7 t).map fb=_);refine Z e ?_;rfl) λk d=>?_))))))))⟩;exact q _ _ d (H.rp (dz KT)) (.set rfl)
noncomputable def Hs.ov(M X:Hs):Hs:={M with a4:=X.a4,aw:=X.aw,aU:=X.aU,j2:=X.j2,ak:=X.ak,am:=X.am}
theorem fy.ov{e:e0}{m:Hs}(X:Hs)(u:fy e M m):fy e (M.ov X) (m.ov X):=by
 cases u with
 |g3 a=>exact fy.g3 (M:=M.ov X) a
 |jK a=>exact fy.jK (M:=M.ov X) a
 |join a b c d e f g i=>exact fy.join (M:=M.ov X) a b c d e f g i
 |oH a b c d=>exact fy.oH (M:=M.ov X) a b c d
 |apart a b c d e f=>exact fy.apart (M:=M.ov X) a b c d e f
 |a7 a=>exact fy.a7 (M:=M.ov X) a
inductive i0:List e0->Hs->Hs->Prop
 |nil {M:Hs}:i0 [] M M
 |la {es e M m S}:fy e M m->i0 es m S->i0 (es++[e]) M S
noncomputable def rU(M S:Hs)(T:List e0)(m:List Nat):Hs:={S with a4:=M.a4.filter (λt=>(S.a7 t).isSome),aw:=[],aU:=KT,j2:=M.j2,ak:=T,am:=m}
noncomputable def pU(k:Nat):Bool:=pL k&&!(Ly k 25||Ly k 26)
theorem CT(k:Nat)(h:pU k=true):pL k=true:=((LL ..).mp h).1
theorem Kh{a b:Int}{P:Bool->Prop}(q:P (decide (b<a))):bB (gI h .gt (.int a) (.int b)) P:=q
theorem xi{step:V->List V->(List V->Hp->Prop)->Hp->Prop}{p:Int->Bool}{P:List V->Hp->Prop}{r:cq}(e:h.o r=U (.list (ae l)))(H:l.length<=aN)
  (s:∀i∈l,∀acc (K:List V->Hp->Prop),acc.length<aN->K (acc++(if p i=true then U (V.int i) else KT).toList) h->step (.int i) acc K h)(q:P (ae (l.filter p)) h):iter step ((ae l).length+1) (.c0 r 0) [] P h:=by
 refine wF (f:=λv=>match v with |.int i=>if p i=true then U (V.int i) else KT |_=>KT) e (λv b acc K A k=>?_) _ 0 [] (by refine Z (bb _) ?_;simpa using H) (ND _).symm ?_
 ·refine aD (LG.mp b) λi d E=>?_;clear b;subst E
  exact s i d acc K A k
 ·have:(ae l).filterMap (λv=>match v with |.int i=>if p i=true then U (V.int i) else KT |_=>KT)=ae (l.filter p):=by
   clear s q H e;induction l with
   |nil=>rfl
   |cons a r I=>
    refine(?_ :NW _ (V.int a::ae r)=_);refine Z Lu (Z MV ?_);dsimp only;by_cases c:p a=true;·exact Z (if_pos c) (Z (if_pos c) (congrArg (V.int a::·) I))
    ·exact Z (if_neg c) (Z (if_neg c) I)
  simp only[OS,List.drop_zero,this];exact q
structure PI(A:AH)(M S:Hs)(k spot:Nat)(T:List e0)(m:Nat)(O:aV)(h:Hp)(a:AH)(N:Hs)(es:List e0):Prop where
 O:O=[U Me,U (.int k),U (.int spot),U (.ref (a.R 25 0)),U (.ref (a.R 26 0)),KT,KT,KT,KT]
 R:AR h a
 H:ah a (N.ov (M.bR (T++es)))
 B:i0 es N S
 m:es.length=m
 o1:a.o 25 0=U (.list [])
 o2:a.o 26 0=U (.list [])
 F:Fr pU A a
 l:(T++es).length<=aN
theorem aB{i:Nat}{v:V}(e:(J[i]?).join=U v)(q:Q v h):Ex.wp G1 C (.var i) J Q h:=ab e q
theorem wT{a b c:Nat}(h:a=b+c):(a:Int)-c=b:=by lia
theorem AX{spot:Nat}(R:AR h A)(H:ah A M)(E:M.aw=[])(o:A.o 25 0=U (.list []))(s:A.o 26 0=U (.list []))(l:M.a4.length<=aN)(q:∀h' d,AR h' d->ah d (M.eH (M.a4.filter λt=>(M.a7 t).isSome))->Fr pL A d->Q .none h'):
  St.bh G1 (a5 G1 T1 (n+2)) (cX.body.drop 7) [U Me,U (.int k),U (.int spot),U (.ref (A.R 25 0)),U (.ref (A.R 26 0)),KT,KT,KT,KT] (Fl.cU Q) h:=by
 refine bj R H rfl (ab (cW R H.a4) ⟨_,xi (p:=λt=>(M.a7 t).isSome) (R.ip H.a4) l (λi I acc K u b=>?_) ?_⟩)
 ·refine bj R H rfl (qZ R H.a7 ?_)
  have e:((M.a7 i).map fb).isSome=(M.a7 i).isSome:=by cases M.a7 i<;>rfl
  refine Z e ?_;induction c:(M.a7 i).isSome with
  |true=>replace b:=c▸b;exact bW rfl ⟨u,b⟩
  |false=>replace b:=c▸b;exact bH rfl (by simpa using b)
 ·exact wB R H (Z (bb _) (KQ (Nj _ _) l)) λx g r j f=>hR ((cL f rfl:g.R 25 0=A.R 25 0)) (hR ((cL f rfl:g.R 26 0=A.R 26 0)) (cD r ((f 25 0 rfl).1.trans o) (bz (Lf _) (ab (a:=.bo []) rfl ⟨1,bX r j rfl jo (ax (qM r j E λy v m w F=>hR ((cL F rfl:v.R 26 0=g.R 26 0)) (cD m ((F 26 0 rfl).1.trans ((f 26 0 rfl).1.trans s)) (bz (Lf _) (ab (a:=.bo []) rfl ⟨1,q _ _ m w ((f.bT Dq).trans F)⟩)))))⟩))))
theorem ux(R:AR h A)(H:ah A M){S:Hs}{s r:List Nat}{spot:Nat}{T es:List e0}(W:M.am=s++spot::r)(et:M.ak=T++es)(ac:T.length=spot)(B:i0 es M S)(u:M.am.length<=aN)(lt:M.ak.length<=aN)(ln:M.a4.length<=aN)
  (hc:M.aU=KT\/s.length<M.j2)(q:∀h' w,AR h' w->ah w (rU M S T s)->Fr pU A w->Q .none h'):cw (n+3) "pop_levels" [Me,.int ((r.length+1:Nat):Int)] Q h:=by
 have L:s.length+(r.length+1)=M.am.length:=by simp only[W,KW,LK]
 have e1:((M.am.map λ(n:Nat)=>V.int n).length:Int)-((r.length+1:Nat):Int)=(s.length:Int):=wT (Z (KS _) L.symm);have f1:fits ((M.am.map λ(n:Nat)=>V.int n).length:Int):=by exact Z (KS _) ⟨MI (by decide) (LO _),fT u⟩
 have f2:fits ((r.length+1:Nat):Int):=⟨MI (by decide) (LO _),fT (KQ (Ng _ _) (Z L u))⟩;have x:(M.am.map λ(n:Nat)=>V.int n).length<=aN:=Z (KS _) u;refine ab nd ⟨rfl,bj R H rfl (bj R H rfl (cD R H.am ⟨x,f1,f2,Z e1 ?_⟩))⟩;have ei:jr (M.am.map λ(n:Nat)=>V.int n) (s.length:Int)=U (.int spot):=by
  unfold jr
  (refine Z (if_pos (LO _)) ?_;rw[Mz,W,Lm,Lx (by rw[KS];exact K9 _),KS,Nb])
  rfl
 refine jX R H.am ei ⟨aX rfl,bj R H rfl (bj R H rfl (cD R H.am ⟨x,f1,f2,Z e1 ?_⟩))⟩;have X:(M.am.map λ(n:Nat)=>V.int n).take s.length=s.map λ(n:Nat)=>V.int n:=by exact Z W (Z Lm (Z (Ob (Z (KS _) (K9 _))) (Z (NU (Z (KS _) (K9 _))) rfl)))
 refine ia (C:=a5 G1 T1 (n+2)) (bU R H.am) (fT (KQ (Lr _ _) (Z L u))) (Z X (BS R H (Z (KS _) (KQ (Lr _ _) (Z L u))) λh1 A1 R1 b F1=>?_));refine c6 25 0 (xs:=[]) R1 (Lf _) λm2 h2 R2=>c6 26 0 (xs:=[]) R2 (Lf _) λm3 h3 R3=>⟨(by decide:2<=aN),rfl,aX rfl,aX rfl,?_⟩;refine h8 (λm J h=>∃w N es,PI A (M.dg s) S (r.length+1) spot T m J h w N es) ?_ ⟨_,M,es,rfl,R3,?_,B,rfl,rfl,rfl,((F1.bT CT).trans (.trans (.new rfl) (.new rfl)):Fr pU A ((A1.new 25 0 m2 (.list [])).new 26 0 m3 (.list []))),hR et lt⟩
 case refine_2=>exact hR et ((⟨b.cl,b.sn,b.bn,b.self,b.Y,b.mem,b.aM,b.val,b.bl,b.bK,b.up,b.bt,b.aC,b.a7,b.a4,b.aw,b.ak,b.am,b.fp,b.c8,b.ec,b.fW,b.fC,b.ops,b.args,b.bF⟩:ah ((A1.new 25 0 m2 (.list [])).new 26 0 m3 (.list [])) (M.dg s)))
 rintro m J h4 K ⟨G,N,E,rfl,j,o,B4,rfl,o1,o2,F4,l4⟩ k;have y:((T++E).map e0.v).length=T.length+E.length:=Z (KS _) (Z KW rfl);refine bj j o rfl (cD j o.ak ⟨by refine Z (KS _) ?_;exact l4,?_⟩);cases B4 with
 |@la es e _ M1 _ af B4=>
  refine aB rfl (ab (a:=true) (congrArg U (decide_eq_true ?_)) ?_)
  ·refine(?_ :(spot:Int)<(((T++(es++[e])).map e0.v).length:Nat))
   simp only[y,ac,KW];exact Nd.mpr (NP (M4 _))
  refine bW rfl ?_;have ht:G.o 13 0=U (.list ((T++es).map e0.v++[e.v])):=by
   refine o.ak.trans (?_ :U (AO.list ((T++(es++[e])).map e0.v))=_)
   (refine hR (Lj _ _ _) (Z Lm ?_));rfl
  have l5:(T++es).length<aN:=by rw[<-Lj,KW] at l4;exact l4
  refine bX j o rfl zk (bj j o rfl (ab (aq j ht) ⟨rfl,aq j ht,pY j ht (Z (KS _) l5) λh5 p=>?_⟩));have g:ah (G.set 13 0 (.list ((T++es).map e0.v))) (N.ov ((M.dg s).bR (T++es))):=o.c9 (l:=T++es) rfl;refine a2 rfl rfl (JG p g (af.ov _) λh6 d z H6 f=>k _ (Z KW (L7 _)) _ _ ⟨d,M1,es,Z (cL f (k:=25) rfl) (Z (cL f (k:=26) rfl) ?_),z,H6,B4,rfl,(f 25 0 rfl).1.trans o1,(f 26 0 rfl).1.trans o2,F4.trans (.trans (.set rfl) (f.bT CT)),LJ l5⟩);rfl
 |nil=>
  refine aB rfl (ab (a:=false) (congrArg U (decide_eq_false ?_)) ?_)
  ·refine(?_ :¬(spot:Int)<(((T++[]).map e0.v).length:Nat))
   exact Z y (hR ac (S3 _))
  refine bH rfl ?_;rw[Lk] at o;refine rW (l:=[]) j o (Lf _) λh5 i p g F=>?_;have t:=λh6 d (z:AR h6 d) (H6:ah d (((S.ov ((M.dg s).bR T)).cV []).d8 KT M.j2)) (f:Fr pL i d)=>AX (n:=n) (Q:=Q) (k:=r.length+1) (spot:=spot) z H6 rfl ((f 25 0 rfl).1.trans ((F 25 0 rfl).1.trans o1)) ((f 26 0 rfl).1.trans ((F 26 0 rfl).1.trans o2)) ln λh7 A7 R7 H7 F7=>q h7 A7 R7 H7 ((F4.trans (F.bT CT)).trans ((f.trans F7).bT CT));have I:∀d,Fr pL i d->d.R 25 0=G.R 25 0/\d.R 26 0=G.R 26 0:=λd f=>⟨(cL f rfl).trans (cL F rfl),(cL f rfl).trans (cL F rfl)⟩;refine bj p g (v:=sp M.aU) rfl ?_;induction P:M.aU with
  |none=>
   have e:((S.ov ((M.dg s).bR T)).cV [])=(((S.ov ((M.dg s).bR T)).cV []).d8 KT M.j2):=by refine(?_ :_=(_:Hs));unfold Hs.d8;refine hR P ?_;rfl
   have:=t h5 i p (hR e g) .refl;replace this:=((I i .refl).2)▸((I i .refl).1)▸this;exact aS this
  |some l=>
   have aa:s.length<M.j2:=hc.resolve_left λe=>by replace P:=e▸P;exact(nomatch P)
   refine aS ?_;have D:(s.map λ(n:Nat)=>V.int n).length=s.length:=KS _;refine bj p g rfl (cD p g.am ⟨KQ (K2 D) (KQ (Lr _ _) (Z L u)),bj p g rfl (ab (a:=true) (congrArg U (decide_eq_true ?_)) ?_)⟩);·exact((Z D (Nd.mpr aa)):((s.map λ(n:Nat)=>V.int n).length:Int)<(M.j2:Int))
   refine bW rfl (uu p g (fs':=ai.L1.bC i (((S.ov ((M.dg s).bR T)).cV []).d8 KT M.j2)) rfl λh6 z=>?_);have f:Fr pL i (i.set 30 0 (.dS (ai.L1.bC i (((S.ov ((M.dg s).bR T)).cV []).d8 KT M.j2)))):=.set rfl;have:=t _ _ z (g.F2 (c:=KT) (k:=M.j2) λ_ e=>nomatch e) f;replace this:=((I _ f).2)▸((I _ f).1)▸this;exact this
theorem w0{k:Nat}{s g:Int}(n:s≠g):V.ref (A.R k s)≠.ref (A.R k g):=λe=>n (congrArg cq.t (V.ref.inj e))
theorem BO{k:Nat}(R:AR h A)(e:A.o k t=U (.list xs))(q:newList xs Q h):pQ .list [.ref (A.R k t)] Q h:=by exact(ab (R.ip e) q:bB (h.o (A.R k t)) (Obj.toL Q h))
theorem El{i j:Nat}{P:PS}(e:(J[0]?).join=U Me)(E:(J[i]?).join=U (.int g))(b:(J[j]?).join=U (.int s))(R:AR h A)(H:ah A M)(n:aj g)(N:aj s)(c:s≠g)(l:(M.mem g).length+(M.mem s).length<=aN)
  (q:∀h' a,AR h' a->ah a (M.nZ g (M.mem g++M.mem s))->Fr pL A a->P .next J h'):St.wp G1 C (.expr (.az (.sub (.ao (.var 0) "members") (.var i)) "extend" [.sub (.ao (.var 0) "members") (.var j)])) J P h:=by
 have o:=H.fp g n;exact ab e (bj R H rfl (ab E (cI R H.mem (j3 n) (ab (aq R o) ⟨rfl,ab e (bj R H rfl (ab b (cI R H.mem (j3 N) ⟨aq R o,iT R o (w0 c) (bU R (H.fp s N)) (Z (bb _) (Z (bb _) l)) λd r=>q _ _ r (H.ET (fB _ _)) (.set rfl)⟩)))⟩))))
theorem De{i j:Nat}{P:PS}(e:(J[0]?).join=U Me)(E:(J[i]?).join=U (.int g))(b:(J[j]?).join=U (.int s))(R:AR h A)(H:ah A M)(n:aj g)(N:aj s)(c:s≠g)(l:(M.aM g).length+(M.aM s).length<=aN)
  (q:∀h' a,AR h' a->ah a (M.gM g (M.aM g++M.aM s))->Fr pL A a->P .next J h'):St.wp G1 C (.expr (.az (.sub (.ao (.var 0) "uses") (.var i)) "extend" [.sub (.ao (.var 0) "uses") (.var j)])) J P h:=by
 have o:=H.c8 g n;exact ab e (bj R H rfl (ab E (cI R H.aM (j3 n) (ab (aq R o) ⟨rfl,ab e (bj R H rfl (ab b (cI R H.aM (j3 N) ⟨aq R o,iT R o (w0 c) (bU R (H.c8 s N)) (Z (bb _) (Z (bb _) l)) λd r=>q _ _ r (H.q' (fB _ _)) (.set rfl)⟩)))⟩))))
theorem EF{i j:Nat}{P:PS}(e:(J[0]?).join=U Me)(E:(J[i]?).join=U (.int g))(b:(J[j]?).join=U (.int s))(R:AR h A)(H:ah A M)(n:aj g)(N:aj s)(c:s≠g)(l:(M.bl g).length+(M.bl s).length<=aN)
  (q:∀h' a,AR h' a->ah a (M.hv g (M.bl g++M.bl s))->Fr pL A a->P .next J h'):St.wp G1 C (.expr (.az (.sub (.ao (.var 0) "apart") (.var i)) "extend" [.sub (.ao (.var 0) "apart") (.var j)])) J P h:=by
 have o:=H.ec g n;exact ab e (bj R H rfl (ab E (cI R H.bl (j3 n) (ab (aq R o) ⟨rfl,ab e (bj R H rfl (ab b (cI R H.bl (j3 N) ⟨aq R o,iT R o (w0 c) (bU R (H.ec s N)) (Z (KS _) (Z (KS _) l)) λd r=>q _ _ r (H.nY (Lm.symm)) (.set rfl)⟩)))⟩))))
theorem E7{i j:Nat}{P:PS}(e:(J[0]?).join=U Me)(E:(J[i]?).join=U (.int g))(b:(J[j]?).join=U (.int s))(R:AR h A)(H:ah A M)(n:aj g)(N:aj s)(c:s≠g)(l:(M.bK g).length+(M.bK s).length<=aN)
  (q:∀h' a,AR h' a->ah a (M.mo g (M.bK g++M.bK s))->Fr pL A a->P .next J h'):St.wp G1 C (.expr (.az (.sub (.ao (.var 0) "watchers") (.var i)) "extend" [.sub (.ao (.var 0) "watchers") (.var j)])) J P h:=by
 have o:=H.fW g n;exact ab e (bj R H rfl (ab E (cI R H.bK (j3 n) (ab (aq R o) ⟨rfl,ab e (bj R H rfl (ab b (cI R H.bK (j3 N) ⟨aq R o,iT R o (w0 c) (bU R (H.fW s N)) (Z (bb _) (Z (bb _) l)) λd r=>q _ _ r (H.u2 (fB _ _)) (.set rfl)⟩)))⟩))))
noncomputable def be(N:Hs)(t:Int):Hs:=match ai.M.arg t with
 |some u=>cM N t u
 |none=>N
noncomputable def ba(N:Hs)(t:Int):Hs:=match ai.M.arg t with
 |some u=>cB N t u
 |none=>N
noncomputable def aT(N:Hs)(l:List Int):Hs:=l.foldl be N
noncomputable def br(N:Hs)(l:List Int):Hs:=l.foldl ba N
theorem oT(N:Hs)(l:List Int)(t:Int):aT N (l++[t])=be (aT N l) t:=Nk
theorem kQ(N:Hs)(l:List Int)(t:Int):br N (l++[t])=ba (br N l) t:=Nk
theorem lZ(N:Hs)(t u:Int):(cM N t u).ak.length<=N.ak.length+1:=by
 unfold cM;split;·exact K2 (bf _)
 ·exact LN _
theorem ow(N:Hs)(t u:Int):(cB N t u).ak.length<=N.ak.length+1/\(cB N t u).aw.length<=N.aw.length+1:=by
 unfold cB;split;·exact⟨K2 (bf _),LN _⟩
 ·split
  ·exact⟨LN _,LN _⟩
  ·exact⟨LN _,K2 (bf _)⟩
def kT(N:Hs):Prop:=∀m o,N.bt m=U o->aj o
theorem v7{f:List Int->Option Int}{o:Int}(h:aH f m v k=U o):f k=U o\/v=U o:=by
 by_cases c:k=m;·subst c;rw[ai.M.aP] at h;exact .inr h
 ·rw[ai.M.aI _ _ c] at h;exact .inl h
theorem q9(h:kT N):kT (cM N t u):=by
 unfold cM;split
 ·intro m o e
  exact K4 (v7 e) (λe=>h _ _ e) λe=>al e
 ·exact h
theorem r4(h:kT N)(n:aj t):kT (cB N t u):=by
 unfold cB;split
 ·intro m o e
  refine K4 (v7 e) (λe=>h _ _ e) λe=>?_
  (replace e:=KP e;subst e);exact n
 ·split
  ·exact h
  ·exact h
theorem ri(N:Hs)(t u:Int):(cM N t u).Y=N.Y:=by unfold cM;split<;>rfl
theorem lW(N:Hs)(t u:Int):(cB N t u).Y=N.Y:=by
 unfold cB;split;·rfl
 ·split<;>rfl
theorem FL{i:Nat}{P:PS}{mv:List Int}(g:∀{t h' c N p},AR h' c->ah c N->(∃u,ai.M.arg t=U u)->N.ak.length<aN->(∀f d,AR f d->ah d (be N t)->Fr pL c d->p .none f)->C ("Congruence"++"."++"take_off") [Me,.int t] p h')
  (I:i<J.length)(j:0≠i)(E:(J[0]?).join=U Me)(R:AR h A)(H:ah A M)(m:∀t∈mv,∃u,ai.M.arg t=U u)(lt:M.ak.length+mv.length<=aN)
  (q:∀h' c y,AR h' c->ah c (aT M mv)->(aT M mv).ak.length<=M.ak.length+mv.length->Fr pL A c->P .next (J.set i y) h'):
  ∃n,dr (λv J Q h=>Tg.wp G1 C (.var i) v J Q h) (λJ Q h=>St.bh G1 C [.expr (.az (.var 0) "take_off" [.var i])] J Q h) n (.bo (ae mv)) J P h:=by
 refine i8 (λl c=>ah c (aT M l)/\(aT M l).ak.length<=M.ak.length+l.length/\Fr pL A c) I (λl t L c h' K e b r k=>ab (a:=Me) (Z (d6 j) E) (bX r b.1 rfl rs (ab (a:=.int t) (by refine Z (hh I) ?_;rfl) (g r b.1 (m t (Z e (Ld _ KX))) (K6 b.2.1 (Li (Pm (Li (NP (M4 L.length)) (K2 ((congrArg Ov e).trans KW).symm):l.length<mv.length) _) lt)) λw x o s F=>k _ _ o ?_)))) (λc h' y b r=>q _ _ y r b.1 b.2.1 b.2.2) R ⟨H,K9 _,.refl⟩;refine Z (oT _ _ _) ⟨s,Z KW (KQ (?_ :(be (aT M l) t).ak.length<=(aT M l).ak.length+1) (Lp b.2.1)),b.2.2.trans F⟩;unfold be;split;·exact lZ _ _ _
 ·exact LN _
structure Ih(M:Hs)(l:List Int):Prop where
 a:(br M l).ak.length<=M.ak.length+l.length
 b:(br M l).aw.length<=M.aw.length+l.length
 n:kT (br M l)
 r:(br M l).Y=M.Y
theorem Ih.la{L:List Int}{t:Int}(I:Ih M L)(h:∃u,ai.M.arg t=U u):Ih M (L++[t]):=by
 refine cY h λu h=>?_;have e:br M (L++[t])=cB (br M L) t u:=by rw[kQ];unfold ba;exact Z h rfl
 have l:=ow (br M L) t u;rw[<-e] at l;exact⟨KQ l.1 (KQ (Lp I.a) (Z KW (K9 _))),KQ l.2 (KQ (Lp I.b) (Z KW (K9 _))),Z e (r4 I.n (aZ h).1),Z e ((lW _ _ _).trans I.r)⟩
theorem CM{i:Nat}{P:PS}{mv:List Int}(j:∀{t h' c N p},AR h' c->ah c N->(∃u,ai.M.arg t=U u)->(∀t,aj t->aj (N.Y t))->kT N->N.ak.length<aN->N.aw.length<aN->(∀f d,AR f d->ah d (ba N t)->Fr pL c d->p .none f)->C ("Congruence"++"."++"look_up") [Me,.int t] p h')
  (I:i<J.length)(m:0≠i)(E:(J[0]?).join=U Me)(R:AR h A)(H:ah A M)(o:∀t∈mv,∃u,ai.M.arg t=U u)(s:∀t,aj t->aj (M.Y t))(T:kT M)(lt:M.ak.length+mv.length<=aN)(w:M.aw.length+mv.length<=aN)
  (q:∀h' c y,AR h' c->ah c (br M mv)->Fr pL A c->P .next (J.set i y) h'):
  ∃n,dr (λv J Q h=>Tg.wp G1 C (.var i) v J Q h) (λJ Q h=>St.bh G1 C [.expr (.az (.var 0) "look_up" [.var i])] J Q h) n (.bo (ae mv)) J P h:=by
 refine i8 (λl c=>ah c (br M l)/\Ih M l/\Fr pL A c) I (λl t B c h' K e b r k=>?_) (λc h' y b r=>q _ _ y r b.1 b.2.2) R ⟨H,⟨K9 _,K9 _,T,rfl⟩,.refl⟩;have L:l.length<mv.length:=Li (NP (M4 B.length)) (K2 ((congrArg Ov e).trans KW).symm);have g:=o t (Z e (Ld _ KX));refine ab (a:=Me) (Z (d6 m) E) (bX r b.1 rfl lI (ab (a:=.int t) (by refine Z (hh I) ?_;rfl) (j r b.1 g (Z b.2.1.r s) b.2.1.n (K6 b.2.1.a (Li (Pm L _) lt)) (K6 b.2.1.b (Li (Pm L _) w)) λD G x z F=>k _ _ x ?_)));exact⟨kQ ..▸z,b.2.1.la g,b.2.2.trans F⟩
noncomputable def c7(N:Hs)(s g:Int):Hs:=N.bR (N.ak++[.join s g (N.mem g).length (N.aM g).length (N.bl g).length (N.bK g).length (N.val g)])
noncomputable def dj(N:Hs)(s g:Int):Hs:=((((N.j' (ey (N.mem s) g N.Y)).nZ g (N.mem g++N.mem s)).gM g (N.aM g++N.aM s)).hv g (N.bl g++N.bl s)).mo g (N.bK g++N.bK s)
noncomputable def dO(N:Hs)(s g:Int):Hs:=if N.val g=0 then N.sJ (aH N.val g (N.val s)) else N
noncomputable def b6(M:Hs)(l r:Int)(w:Option Int)(L:List eN)(top:Int):Hs:=br (dO (dj (c7 (aT (cp M l r w L top) (M.aM (M.Y l))) (M.Y l) (M.Y r)) (M.Y l) (M.Y r)) (M.Y l) (M.Y r)) (M.aM (M.Y l))
structure zA(J:Hs)(s g f e:Int):Prop where
 W:hO J.up
 S:mh J
 ap:∀p∈J.bl s,J.Y p.1=J.Y p.2.1->oI J.up p.1 p.2.1
 vs:f≠0->e≠0->aj f/\aj e/\J.Y f=J.Y e/\oI J.up f e
 bK:∀w∈J.bK g,∃s,J.aC w=U s
 ln:J.a4.length+(J.bK g).length<=aN
 lt:J.ak.length+(J.bK g).length<=aN
 lm:J.am.length<=aN
inductive iW(M:Hs)(l r:Int)(w:Option Int):Hs->Prop
 |jT {L top N}:cn M.up l L top->(M.val (M.Y l)=0\/M.val (M.Y r)=0)->(∀p∈(b6 M l r w L top).bl (M.Y l),(b6 M l r w L top).Y p.1≠(b6 M l r w L top).Y p.2.1)->iU (b6 M l r w L top) ((b6 M l r w L top).bK (M.Y r)) N->iW M l r w N
 |aU {L top x}:cn M.up l L top->((M.val (M.Y l)≠0/\M.val (M.Y r)≠0)\/∃p∈(b6 M l r w L top).bl (M.Y l),(b6 M l r w L top).Y p.1=(b6 M l r w L top).Y p.2.1)->iW M l r w ((b6 M l r w L top).d8 (U x) (b6 M l r w L top).am.length)
structure lh(M:Hs)(l r:Int)(w:Option Int):Prop where
 W:hO M.up
 nl:aj l
 nr:aj r
 ne:M.Y l≠M.Y r
 rn:∀t,aj t->aj (M.Y t)
 mn:∀t∈M.mem (M.Y l),aj t
 un:∀t∈M.aM (M.Y l),∃u,ai.M.arg t=U u
 tn:kT M
 lt:M.ak.length+100<=aN
 lq:M.aw.length+100<=aN
 l1:(M.mem (M.Y r)).length+(M.mem (M.Y l)).length<=100
 l2:(M.aM (M.Y r)).length+(M.aM (M.Y l)).length<=40
 l3:(M.bl (M.Y r)).length+(M.bl (M.Y l)).length<=100
 l4:(M.bK (M.Y r)).length+(M.bK (M.Y l)).length<=100
 af:∀L top,cn M.up l L top->zA (b6 M l r w L top) (M.Y l) (M.Y r) (M.val (M.Y l)) (M.val (M.Y r))
theorem pq(N:Hs)(t:Int):be N t={N with ak:=(be N t).ak,bt:=(be N t).bt}:=by
 unfold be;split
 ·unfold cM
  split<;>rfl
 ·rfl
theorem fc:∀(l:List Int) (N:Hs),aT N l={N with ak:=(aT N l).ak,bt:=(aT N l).bt}
 |[],N=>rfl
 |t::l,N=>by refine((Z (fc l (be N t)) ?_):aT (be N t) l={N with ak:=(aT (be N t) l).ak,bt:=(aT (be N t) l).bt});dsimp only;exact Z (pq N t) rfl
theorem gE(N:Hs)(s g:Int):dO N s g={N with val:=(dO N s g).val}:=by unfold dO;split<;>rfl
theorem jE:∀(l:List Int) {N:Hs},kT N->kT (aT N l)
 |[],N,h=>h
 |t::l,N,h=>by
  refine jE l ?_;unfold be;split;·exact q9 h
  ·exact h
theorem FC(k:Nat)(h:pL k=true):pT k=true:=by unfold pT;simp only[rv h (j:=10) rfl,rv h (j:=11) rfl,rv h (j:=13) rfl];rfl
theorem uN{j:Nat}{P:PS}(e:(J[j]?).join=U (.fl xs))(q:∃n,dr (λv J Q h=>Tg.wp G1 C (.var i) v J Q h) (St.bh G1 C b) n (.bo xs) J P h):St.wp G1 C (.for (.var i) (.var j) b) J P h:=ab e q
inductive v0(J:Hs)(s g f e:Int):Hs->Prop
 |jT {N}:(f=0\/e=0)->(∀p∈J.bl s,J.Y p.1≠J.Y p.2.1)->iU J (J.bK g) N->v0 J s g f e N
 |aU {x}:((f≠0/\e≠0)\/∃p∈J.bl s,J.Y p.1=J.Y p.2.1)->v0 J s g f e (J.d8 (U x) J.am.length)
theorem zd{mv:V}{y:Option V}(R:AR h A)(H:ah A M)(N:aj s)(E:aj g)(G:zA M s g f e)(q:∀h' o u,AR h' o->ah o u->Fr pL A o->v0 M s g f e u->Q .none h'):
  St.bh G1 (a5 G1 T1 (n+4)) (cm.body.drop 14) [U Me,U (.int l),U (.int r),U (ty w),U (.int s),U (.int g),U mv,y,U (.int f),U (.int e),KT] (Fl.cU Q) h:=by
 have v:(f=0\/e=0)->cw (n+4) "torn" [Me,.int s] (Fq (Tg.wp G1 (a5 G1 T1 (n+4)) (.var 10)) [U Me,U (.int l),U (.int r),U (ty w),U (.int s),U (.int g),U mv,y,U (.int f),U (.int e),KT] (n6 (St.bh G1 (a5 G1 T1 (n+4)) (cm.body.drop 15)) (Fl.cU Q))) h:=by
  intro z;refine IF R H G.W N (G.S.bl s N:∀p∈M.bl s,aj p.1/\aj p.2.1) G.ap (λI=>⟨aX rfl,?_⟩) λJ K x d i t c L=>⟨aX rfl,?_⟩;·refine bX R H rfl iC (a1 rfl (nU R H G.S E G.bK G.ln G.lt λB D Z j k T F=>q _ _ _ j k (F.bT FC) (.jT z I T)))
  ·refine bX d i rfl ga (a1 rfl (jV d i (KQ L (by decide)) G.lm λB D j k F=>q _ _ _ j k ((t.bT qe).trans F) (.aU (.inr c))))
 by_cases C:f=0;·exact po (a:=f) (b:=0) C (bX R H rfl sU (a1 rfl (v (.inl C))))
 ·by_cases m:e=0
  ·exact my (a:=f) (b:=0) C (po (a:=e) (b:=0) m (bX R H rfl sU (a1 rfl (v (.inr m)))))
  ·exact fe (G.vs C m) λP S re W=>my (a:=f) (b:=0) C (my (a:=e) (b:=0) m (bX R H rfl dB (a2 rfl rfl (hS R H G.W P S re W λJ K x d i t o1 X=>⟨aX rfl,bX d i rfl ga (a1 rfl (jV d i (KQ X (by decide)) G.lm λB D j k F=>q _ _ _ j k ((t.bT qe).trans F) (.aU (.inl ⟨C,m⟩))))⟩))))
theorem yn{mv:List Int}{y:Option V}(R:AR h A)(H:ah A M)(S:aj s)(p:aj g)(v:∀t∈mv,∃u,ai.M.arg t=U u)(x:∀t,aj t->aj (M.Y t))(z:kT M)(lt:M.ak.length+mv.length<=aN)(B:M.aw.length+mv.length<=aN)(G:zA (br M mv) s g f e)
  (q:∀h' b m,AR h' b->ah b m->Fr pL A b->v0 (br M mv) s g f e m->Q .none h'):
  St.bh G1 (a5 G1 T1 (n+4)) (cm.body.drop 13) [U Me,U (.int l),U (.int r),U (ty w),U (.int s),U (.int g),U (.fl (ae mv)),y,U (.int f),U (.int e),KT] (Fl.cU Q) h:=by
 refine uN (i:=7) (j:=6) rfl (CM (i:=7) (mv:=mv) (λ{t h' b N X} C H' a c T L d k=>?_) (aX rfl) (by decide) rfl R H v x z lt B λh2 A2 y2 D E F=>zd D E S p G λh3 A3 aa I J K P=>q _ _ _ I J (F.trans K) P)
 ·obtain⟨u,a⟩:=a
  have W:ba N t=cB N t u:=by unfold ba;exact Z a rfl
  replace k:=W▸k;exact Db C H' a (c _ (aZ a).2) (λo=>T _ o) L d k
theorem qS(R:AR h A)(H:ah A M)(J:lh M l r w)(q:∀h' v B,AR h' v->ah v B->Fr pL A v->iW M l r w B->Q .none h'):
  St.bh G1 (a5 G1 T1 (n+4)) (cm.body.drop 1) [U Me,U (.int l),U (.int r),U (ty w),KT,KT,KT,KT,KT,KT,KT] (Fl.cU Q) h:=by
 refine g1 (cn.exists (J.W.ac l)) λL top P=>?_;have s:=J.rn l J.nl;have g:=J.rn r J.nr;have G:=J.af L top P;refine b8 R H rfl H.Y (rd J.nl) (b8 R H rfl H.Y (rd J.nr) (FH (by decide:2<=aN) rfl (aX rfl) (aX rfl) (?_)));have T:=J.lt;have x:(M.aM (M.Y l)).length<=40:=KQ (Ng _ _) J.l2;refine bX R H rfl zi (a3 rfl rfl rfl (IW R H J.W P J.nl (Li (NP (by decide)) T) λh1 A1 X D F1=>b8 X D rfl D.aM (j3 s) (ax (BO (xs:=ae (M.aM (M.Y l))) X (D.c8 _ s) (bz (Z (bb _) (KQ x (by decide))) ⟨aX rfl,cx ?_⟩)))));have ac:(cp M l r w L top).ak.length=M.ak.length+1:=bf _;refine uN (i:=7) (j:=6) rfl (FL (i:=7) (mv:=M.aM (M.Y l)) (λ{t h' v N af} R' H' F aa q'=>?_) (aX rfl) (by decide) rfl X D J.un (Z ac (bM (io _ _ _) 0x181137913164479138284 rfl T x)) λh2 A2 y p m o F2=>cx ?_)
 ·obtain⟨u,F⟩:=F
  have e1:be N t=cM N t u:=by unfold be;exact Z F rfl
  replace q':=e1▸q';exact Bw R' H' F aa q'
 replace o:=ac▸o;have tN:kT (aT (cp M l r w L top) (M.aM (M.Y l))):=jE _ J.tn;have eJ:b6 M l r w L top=br (dO (dj (c7 (aT (cp M l r w L top) (M.aM (M.Y l))) (M.Y l) (M.Y r)) (M.Y l) (M.Y r)) (M.Y l) (M.Y r)) (M.aM (M.Y l)):=rfl;have fN:(aT (cp M l r w L top) (M.aM (M.Y l))).Y=M.Y/\(aT (cp M l r w L top) (M.aM (M.Y l))).mem=M.mem/\(aT (cp M l r w L top) (M.aM (M.Y l))).aM=M.aM/\(aT (cp M l r w L top) (M.aM (M.Y l))).bl=M.bl/\(aT (cp M l r w L top) (M.aM (M.Y l))).bK=M.bK/\(aT (cp M l r w L top) (M.aM (M.Y l))).val=M.val/\(aT (cp M l r w L top) (M.aM (M.Y l))).aw=M.aw:=by exact Z (fc (M.aM (M.Y l)) (cp M l r w L top)) ⟨rfl,rfl,rfl,rfl,rfl,rfl,rfl⟩
 generalize aT (cp M l r w L top) (M.aM (M.Y l))=N at*;refine uV fN λf1 f2 f3 f4 f5 f6 f7=>?_;have c1:(N.mem (M.Y r)).length+(N.mem (M.Y l)).length<=100:=Z f2 (J.l1);have c2:(N.aM (M.Y r)).length+(N.aM (M.Y l)).length<=100:=Z f3 (KQ J.l2 (by decide));have c3:(N.bl (M.Y r)).length+(N.bl (M.Y l)).length<=100:=Z f4 (J.l3);have c4:(N.bK (M.Y r)).length+(N.bK (M.Y l)).length<=100:=Z f5 (J.l4);have I:∀{a b:Nat},a+b<=100->a<=aN:=λh=>h3 (KQ (Lr _ _) h);refine bj p m rfl (ab (aq p m.ak) ⟨rfl,bX p m rfl tf (a1 rfl (Cd p m g (I c1) (I c2) (I c3) (I c4) (b8 p m rfl m.val (rd g) ⟨(by decide:5<=aN),aq p m.ak,bJ p m.ak (Z (KS _) (by exact bM (lN _ _ _ _) 0x113781316449813a2841371a1139 rfl T x o:N.ak.length<aN)) λag R3=>?_⟩)))⟩);have K:ah _ (c7 N (M.Y l) (M.Y r)):=m.c9 (dc N.ak (e0.join (M.Y l) (M.Y r) (N.mem (M.Y r)).length (N.aM (M.Y r)).length (N.bl (M.Y r)).length (N.bK (M.Y r)).length (N.val (M.Y r))));refine b8 R3 K rfl K.mem (j3 s) (ab (cW R3 (K.fp _ s)) (qO (i:=7) (k:=5) (aX rfl) (by decide) (by decide) rfl rfl R3 K s (Z f2 (J.mn):∀t∈N.mem (M.Y l),aj t) λh4 A4 y4 R4 H4 F4=>cx (El (C:=a5 G1 T1 (n+4)) (i:=5) (j:=4) rfl rfl rfl R4 H4 g s J.ne (h3 c1) λh5 A5 R5 H5 F5=>cx (De (C:=a5 G1 T1 (n+4)) (i:=5) (j:=4) rfl rfl rfl R5 H5 g s J.ne (h3 c2) λh6 A6 R6 H6 F6=>cx (EF (C:=a5 G1 T1 (n+4)) (i:=5) (j:=4) rfl rfl rfl R6 H6 g s J.ne (h3 c3) λh7 A7 R7 H7 F7=>cx (E7 (C:=a5 G1 T1 (n+4)) (i:=5) (j:=4) rfl rfl rfl R7 H7 g s J.ne (h3 c4) λh8 A8 z d F8=>cx ?_))))));have d:ah A8 (dj (c7 N (M.Y l) (M.Y r)) (M.Y l) (M.Y r)):=d;refine b8 z d rfl d.val (rd s) (b8 z d rfl d.val (rd g) ⟨(by decide:2<=aN),rfl,aX rfl,aX rfl,?_⟩);have V:∀t,(dj (c7 N (M.Y l) (M.Y r)) (M.Y l) (M.Y r)).val t=M.val t:=λt=>congrFun f6 t;refine Z (V _) (Z (V _) ?_);have S:=gE (dj (c7 N (M.Y l) (M.Y r)) (M.Y l) (M.Y r)) (M.Y l) (M.Y r);have rK:∀t,aj t->aj ((dO (dj (c7 N (M.Y l) (M.Y r)) (M.Y l) (M.Y r)) (M.Y l) (M.Y r)).Y t):=by
  intro t nt;refine Z S (?_ :aj (ey (N.mem (M.Y l)) (M.Y r) N.Y t))
  (rw[jg];refine Z f1 ?_)
  split;·exact g
  ·exact J.rn t nt
 have tK:kT (dO (dj (c7 N (M.Y l) (M.Y r)) (M.Y l) (M.Y r)) (M.Y l) (M.Y r)):=Z S tN;have lK:(dO (dj (c7 N (M.Y l) (M.Y r)) (M.Y l) (M.Y r)) (M.Y l) (M.Y r)).ak.length=N.ak.length+1:=Z S (bf _);have qK:(dO (dj (c7 N (M.Y l) (M.Y r)) (M.Y l) (M.Y r)) (M.Y l) (M.Y r)).aw=M.aw:=Z S f7;replace G:=eJ▸G;have jq:=J.lq;have cU:=λh9 A9 (R9:AR h9 A9) (H9:ah A9 (dO (dj (c7 N (M.Y l) (M.Y r)) (M.Y l) (M.Y r)) (M.Y l) (M.Y r))) (F9:Fr pL A8 A9)=>yn (n:=n) (Q:=Q) (l:=l) (r:=r) (w:=w) (mv:=M.aM (M.Y l)) (y:=y4) (f:=M.val (M.Y l)) (e:=M.val (M.Y r)) R9 H9 s g J.un rK tK (Z lK (bM (lN _ _ _ _) 0x1811379131644a923828413718113a rfl T x o)) (by rw[qK];exact bM (io _ _ _) 0x187913828413164479 rfl x jq) G λh' v B R' H' F' E'=>q h' v B R' H' (((((F1.trans F2).trans (.trans (.set rfl) F4)).trans ((F5.trans F6).trans (F7.trans F8)):Fr pL A A8).trans F9).trans F') (by
  replace E':=(eJ).symm▸E';clear H';induction E' with
  |jT a b c=>exact .jT P a b c
  |aU a=>exact .aU P a);have E:dO (dj (c7 N (M.Y l) (M.Y r)) (M.Y l) (M.Y r)) (M.Y l) (M.Y r)=if M.val (M.Y r)=0 then(dj (c7 N (M.Y l) (M.Y r)) (M.Y l) (M.Y r)).sJ (aH (dj (c7 N (M.Y l) (M.Y r)) (M.Y l) (M.Y r)).val (M.Y r) (M.val (M.Y l))) else dj (c7 N (M.Y l) (M.Y r)) (M.Y l) (M.Y r):=by
  unfold dO;exact Z (V _) (Z (V _) rfl)
 by_cases W:M.val (M.Y r)=0
 ·rw[if_pos W] at E
  replace cU:=E▸cU;exact kl (a:=M.val (M.Y r)) (b:=0) W (bj z d rfl (cF z d.val (aR g) λh9 R9=>cU _ _ R9 (d.Al (kn g)) (.set rfl)))
 ·replace E:=(if_neg W)▸E
  replace cU:=E▸cU;exact js (a:=M.val (M.Y r)) (b:=0) W (cU _ _ z d .refl)
theorem join(R:AR h A)(H:ah A M)(N:aj l)(d:aj r)(g:∀t,aj t->aj (M.Y t))(L:∀t,aj t->(M.mem (M.Y t)).length<=aN)(J:(M.mem (M.Y l)).length<=(M.mem (M.Y r)).length->lh M l r w)(i:(M.mem (M.Y r)).length<(M.mem (M.Y l)).length->lh M r l w)
  (q:∀h' b m,AR h' b->ah b m->Fr pL A b->(((M.mem (M.Y l)).length<=(M.mem (M.Y r)).length/\iW M l r w m)\/((M.mem (M.Y r)).length<(M.mem (M.Y l)).length/\iW M r l w m))->Q .none h'):cw (n+5) "join" [Me,.int l,.int r,ty w] Q h:=by
 have s:=g l N;have G:=g r d;refine ab zW ⟨rfl,bj R H rfl (b8 R H rfl H.Y (rd N) (cI R H.mem (j3 s) (cD R (H.fp _ s) ⟨by refine Z (bb _) ?_;exact L _ N,?_⟩)))⟩;refine bj R H rfl (b8 R H rfl H.Y (rd d) (cI R H.mem (j3 G) (cD R (H.fp _ G) ⟨by refine Z (bb _) ?_;exact L _ d,?_⟩)));by_cases c:(M.mem (M.Y r)).length<(M.mem (M.Y l)).length;·exact ab (a:=true) (congrArg U (decide_eq_true (Z (bb _) (Z (bb _) (Nd.mpr c))))) (bW rfl ⟨(by decide:2<=aN),rfl,aX rfl,aX rfl,qS R H (i c) λh' b m e H' f j=>q _ _ _ e H' f (.inr ⟨c,j⟩)⟩)
 ·have c':=Pz.mp c
  exact ab (a:=false) (congrArg U (decide_eq_false (Z (bb _) (Z (bb _) (λk=>c (Nd.mp k)))))) (bH rfl (qS R H (J c') λh' b m e H' f j=>q _ _ _ e H' f (.inl ⟨c',j⟩)))
def HS(M:Hs)(l r:Int)(w:Option Int)(m:Hs):Prop:=((M.mem (M.Y l)).length<=(M.mem (M.Y r)).length/\iW M l r w m)\/((M.mem (M.Y r)).length<(M.mem (M.Y l)).length/\iW M r l w m)
structure mP(I:Nat->Nat->Hs->Prop):Prop where
 cQ:∀m k N,I m k N->N.aw.length<=1000/\k<=1000
 nn:∀m k N l r w,I m k N->N.aU=KT->N.aw[k]? =U (l,r,w)->aj l/\aj r
 rn:∀m k N,I m k N->N.aU=KT->∀t,aj t->aj (N.Y t)
 lm:∀m k N,I m k N->N.aU=KT->∀t,aj t->(N.mem (N.Y t)).length<=aN
 same:∀m k N l r w,I m k N->N.aU=KT->N.aw[k]? =U (l,r,w)->N.Y l=N.Y r->∃M,M<m/\I M (k+1) N
 ok:∀m k N l r w,I m k N->N.aU=KT->N.aw[k]? =U (l,r,w)->N.Y l≠N.Y r->((N.mem (N.Y l)).length<=(N.mem (N.Y r)).length->lh N l r w)/\((N.mem (N.Y r)).length<(N.mem (N.Y l)).length->lh N r l w)
 step:∀m k N l r w a,I m k N->N.aU=KT->N.aw[k]? =U (l,r,w)->N.Y l≠N.Y r->HS N l r w a->∃M,M<m/\I M (k+1) a
theorem hU(xs:List V)(k:Nat):jr xs (k:Int)=xs[k]? :=by
 unfold jr
 (exact Z (if_pos (LO _)) (Z (Mz _) rfl))
theorem eC{k:Nat}(h:k<=1000000):fits (k:Int):=⟨MI (by decide) (LO _),MI (MS.mpr h) (by decide)⟩
noncomputable def Jk:List St:=match eb.body.drop 1 with
 |.while _ b::_=>b
 |_=>[]
noncomputable def Fs(k:Nat)(x y z:Option V):aV:=[U Me,U (.int (k:Nat)),x,y,z]
inductive Kg(I:Nat->Nat->Hs->Prop)(A:AH)(m:Nat)(J:aV)(h:Hp):Prop
 |mk (a:AH) (k:Nat) (N:Hs) (x y z:Option V) (d9:J=Fs k x y z) (R:AR h a) (H:ah a N) (F:Fr pL A a) (i:I m k N)
theorem uT{I:Nat->Nat->Hs->Prop}(C:mP I){m:Nat}{P:PS}(R:AR h A)(H:ah A N)(i:I m k N)(c:k<N.aw.length)(E:N.aU=KT)
  (q:∀h' b M f x y z,M<m->AR h' b->ah b f->Fr pL A b->I M (k+1) f->P .next (Fs (k+1) x y z) h'):St.bh G1 (a5 G1 T1 (n+5)) Jk (Fs k x y z) P h:=by
 have Q:N.aw[k]? =U (N.aw[k]):=L8 c;generalize N.aw[k]=e at Q;obtain⟨l,r,w⟩:=e;have a:=C.nn _ _ _ _ _ _ i E Q;have g:jr (N.aw.map lC) (k:Int)=U (lC (l,r,w)):=by simp only[hU,ML,Q];rfl
 refine bj R H rfl (jX R H.aw g ⟨rfl,aX rfl,aX rfl,aX rfl,eC (KQ (C.cQ _ _ _ i).2 (by decide)),eC (k:=1) (by decide),aX rfl,b8 R H rfl H.Y (rd a.1) (b8 R H rfl H.Y (rd a.2) ?_)⟩);by_cases d:N.Y l=N.Y r;·exact(C.same _ _ _ _ _ _ i E Q d).elim λM w=>po d (q _ _ _ _ _ _ _ w.1 R H .refl w.2)
 ·have j:=C.ok _ _ _ _ _ _ i E Q d
  exact my d (bX R H rfl yO (a3 rfl rfl rfl (join R H a.1 a.2 (C.rn _ _ _ i E) (C.lm _ _ _ i E) j.1 j.2 λs t u o p F J=>(C.step _ _ _ _ _ _ _ i E Q d J).elim λM w=>q _ _ _ _ _ _ _ w.1 o p F w.2)))
theorem Hg{I:Nat->Nat->Hs->Prop}(C:mP I){m:Nat}(R:AR h A)(H:ah A M)(i:I m 0 M)(q:∀h' f m k N,AR h' f->ah f (N.cV [])->Fr pL A f->I m k N->(N.aU≠KT\/N.aw.length<=k)->Q .none h'):cw (n+6) "close" [Me] Q h:=by
 refine ab k8 ⟨rfl,aX rfl,h8 (Kg I A) ?_ ⟨A,0,M,_,_,_,rfl,R,H,.refl,i⟩⟩;intro m J t K S u;obtain⟨G,k,N,x,y,z,d9,r,b,p,g⟩:=S;subst d9;have L:(N.aw.map lC).length=N.aw.length:=KS _;refine bj r b rfl (cD r b.aw ⟨Z L (KQ (C.cQ _ _ _ g).1 (by decide)),?_⟩);have cU:(N.aU≠KT\/N.aw.length<=k)->newList ([]:List V) (λv h=>bB (ai.bC h ⟨30,0,sN⟩) (BF ⟨30,0,sN⟩ "queue" v (Q .none) h)) t:=λd=>rW (l:=[]) r b (Lf _) λw s j o F=>q _ _ _ _ _ j o (p.trans F) g d;by_cases c:k<N.aw.length
 ·refine ab (a:=true) (congrArg U (decide_eq_true (Z L (Nd.mpr c)))) (bW rfl (bj r b (v:=sp N.aU) rfl ?_))
  induction E:N.aU with
  |some l=>exact aS (cU (.inl λe=>al (e.symm.trans E)))
  |none=>exact aS (uT C r b g c E λw s P B x y z lt j o F D=>u _ lt _ _ ⟨s,k+1,B,_,_,_,rfl,j,o,p.trans F,D⟩)
 ·exact ab (a:=false) (congrArg U (decide_eq_false (Z L (λe=>c (Nd.mp e))))) (bH rfl (cU (.inr (Pz.mp c))))
theorem G8{I:Nat->Nat->Hs->Prop}(C:mP I){m:Nat}(R:AR h A)(H:ah A M){r:Int}(t:aj a)(B:aj b)(e:M.aw=[])(i:I m 0 (M.cV [(a,b,U r)]))(q:∀h' g m k N,AR h' g->ah g (N.cV [])->Fr pL A g->I m k N->(N.aU≠KT\/N.aw.length<=k)->Q .none h'):
  cw (n+7) "merge" [Me,.int a,.int b,.int r] Q h:=by
 refine ab yj ⟨rfl,bX R H rfl cr (a1 rfl (ee R H t e λz D j o F=>bX j o rfl cr (a1 rfl (ee j o B e λE G f c u=>bj f c rfl (ab (aq f c.aw) ⟨rfl,(by decide:3<=aN),aq f c.aw,bJ f c.aw (by refine Z e ?_;decide) λJ p=>?_⟩)))))⟩;have s:=c.sE (l:=[(a,b,U r)]) (xs:=M.aw.map lC++[lC (a,b,U r)]) (by refine Z e ?_;rfl);exact bX p s rfl jo (ax (Hg C p s i λK L m k N v w x y d=>q _ _ _ _ _ v w ((F.trans u).trans (.trans (.set rfl) x)) y d))
noncomputable def hm(M:Hs)(a b r:Int):Hs:=(((M.hv (M.Y a) (M.bl (M.Y a)++[(a,b,r)])).hv (M.Y b) (M.bl (M.Y b)++[(a,b,r)]))).bR (M.ak++[.apart (M.Y a) (M.Y b)])
theorem nH(R:AR h A)(H:ah A M)(W:hO M.up)(N:aj a)(B:aj b)(E:M.aw=[])(C:M.aU=KT)(rt:M.Y a=M.Y b)(mt:oI M.up a b)(m:M.am.length<=aN)(q:∀h' e l,AR h' e->ah e (M.d8 (U l) M.am.length)->Fr pL A e->Q .none h'):
  cw (n+5) "separate" [Me,.int a,.int b,.int r] Q h:=by
 exact ab j9 ⟨rfl,bX R H rfl cr (a1 rfl (ee R H N E λu w f g F=>bX f g rfl cr (a1 rfl (ee f g B E λx y d c i=>bj d c (v:=sp M.aU) rfl (Z C (aS (b8 d c rfl c.Y (rd N) (b8 d c rfl c.Y (rd B) ⟨(by decide:2<=aN),rfl,aX rfl,aX rfl,kl rt (bX d c rfl ga (bX d c rfl fE (bX d c rfl dB (a2 rfl rfl (hS d c W N B rt mt λz D l j k o G L=>a1 rfl (i1 (K6 L (by decide)) (ax (jV j k (KQ (k4 _ _) (KQ (Lp L) (by decide))) m λI J p s t=>⟨_,_,.refl,q _ _ _ p s ((F.trans i).trans ((o.bT qe).trans t))⟩))))))))⟩))))))))⟩
theorem yP(R:AR h A)(H:ah A M)(S:mh M)(N:aj a)(B:aj b)(E:M.aw=[])(I:M.aU=KT)(rt:M.Y a≠M.Y b)(L:(M.bl (M.Y a)).length<aN)(J:(M.bl (M.Y b)).length<aN)(lt:M.ak.length+1+(M.bK (M.Y a)).length<=aN)(K:M.a4.length+(M.bK (M.Y a)).length<=aN)
  (W:∀w∈M.bK (M.Y a),∃s,M.aC w=U s)(q:∀h' m u,AR h' m->ah m u->Fr pL A m->iU (hm M a b r) (M.bK (M.Y a)) u->Q .none h'):
  cw (n+5) "separate" [Me,.int a,.int b,.int r] Q h:=by
 have e:=S.Y a N;have x:=S.Y b B;refine ab j9 ⟨rfl,bX R H rfl cr (a1 rfl (ee R H N E λh1 A1 y z T=>bX y z rfl cr (a1 rfl (ee y z B E λh2 A2 d c V=>bj d c (v:=sp M.aU) rfl (Z I (aS (b8 d c rfl c.Y (rd N) (b8 d c rfl c.Y (rd B) ⟨(by decide:2<=aN),rfl,aX rfl,aX rfl,js rt (b8 d c rfl c.bl (j3 e) (ab (aq d (c.ec _ e)) ⟨rfl,(by decide:3<=aN),aq d (c.ec _ e),bJ d (c.ec _ e) (by rw[KS];exact L) λh3 g=>?_⟩))⟩))))))))⟩;have i:=c.nY (t:=M.Y a) (l:=M.bl (M.Y a)++[(a,b,r)]) (xs:=NK ii (M.bl (M.Y a))++[ii (a,b,r)]) (by simp only[Lm];rfl);have X:(M.hv (M.Y a) (M.bl (M.Y a)++[(a,b,r)])).bl (M.Y b)=M.bl (M.Y b):=ai.M.aI _ _ (Qs rt);have o:=i.ec _ x;rw[X] at o;refine b8 g i rfl i.bl (j3 x) (ab (aq g o) ⟨rfl,(by decide:3<=aN),aq g o,bJ g o (by rw[KS];exact J) λh4 j=>?_⟩);have f:=i.nY (t:=M.Y b) (l:=M.bl (M.Y b)++[(a,b,r)]) (xs:=NK ii (M.bl (M.Y b))++[ii (a,b,r)]) (by refine Z Lm ?_;rfl);refine bj j f rfl (ab (aq j f.ak) ⟨rfl,(by decide:3<=aN),aq j f.ak,bJ j f.ak (by rw[KS];exact Li (L7 _) (KQ (Lr _ _) lt)) λh5 D=>?_⟩);have F:ah _ (hm M a b r):=f.c9 (l:=M.ak++[e0.apart (M.Y a) (M.Y b)]) (dc M.ak (e0.apart (M.Y a) (M.Y b)));refine bX D F rfl iC (a1 rfl (nU D F ⟨S.Y,λt nt p P=>?_,S.aC⟩ e W K (Z (bf M.ak) lt) λh6 A6 M6 R6 H6 T6 F6=>q _ _ _ R6 H6 ((T.trans V).trans (.trans (.trans (.set rfl) (.set rfl)) (.trans (.set rfl) (F6.bT FC)))) T6))
 ·have key:p∈M.bl t\/p=(a,b,r):=by
   have P:p∈aH (aH M.bl (M.Y a) (M.bl (M.Y a)++[(a,b,r)])) (M.Y b) (M.bl (M.Y b)++[(a,b,r)]) t:=P;by_cases C:t=M.Y b
   ·subst C;rw[ai.M.aP] at P
    exact(K8.mp P).imp id KU.mp
   ·rw[ai.M.aI _ _ C] at P
    by_cases G:t=M.Y a
    ·clear C;subst G;rw[ai.M.aP] at P
     exact(K8.mp P).imp id KU.mp
    ·rw[ai.M.aI _ _ G] at P;exact .inl P
  clear P;rcases key with k |rfl
  ·exact S.bl t nt p k
  ·exact⟨N,B⟩
open ai.M (ev)
def gG(M m:Hs):Prop:=∃es,m.ak=M.ak++es/\i0 es m (M.ov m)
theorem i0.ov{S:Hs}(X:Hs)(b:i0 es M S):i0 es (M.ov X) (S.ov X):=by
 induction b with
 |nil=>exact .nil
 |la u _ i=>exact .la (u.ov X) i
theorem i0.Kw{e E:List e0}{X y:Hs}(b:i0 E M X):i0 e X y->i0 (e++E) M y:=by
 induction b with
 |nil=>intro c;rw[Lk];exact c
 |la u _ i=>intro c;exact hR (Lj _ _ _) (.la u (i c))
theorem i0.dZ{e:e0}{S:Hs}(u:fy e M S):i0 [e] M S:=.la (es:=[]) u .nil
theorem gG.trans{c m:Hs}(a:gG M c)(b:gG c m):gG M m:=by exact aD a λe t B=>aD b λE T d=>⟨e++E,by simp only[T,t,Lj],d.Kw (B.ov m)⟩
theorem gG.Hq{m:Hs}(t:m.ak=M.ak)(e:M.ov m=m):gG M m:=⟨[],Z t (Z (Lk _) rfl),Z e .nil⟩
theorem gG.refl:gG M M:=.Hq rfl rfl
theorem Kn(x:ev up l u):∀{L v},ev up L v->L.head?=l.head?->u=v:=by
 induction x with
 |dZ e=>
  intro L v y h;induction y with
  |dZ=>rfl
  |cons E _=>(replace h:=KP h;subst h);replace E:=e▸E;exact al E
 |cons e x i=>
  intro L v y h;induction y with
  |dZ E=>(replace h:=KP h;subst h);replace E:=e▸E;exact al E.symm
  |cons E y=>
   (injection h with h;subst h)
   replace E:=e▸E;(cases KP E);exact Z (i y rfl) rfl
theorem gG.Kp(W:hO M.up){l r top:Int}{w:Option Int}{L:List eN}(P:cn M.up l L top)(F:∃E,ai.M.b7 M.up E):gG M (cp M l r w L top):=by
 have T:=P.turn W.ac;have b:aH (aH (eO L (dG L M.up)) l (U (r,w))) l none=eO L (dG L M.up):=by simp only[ai.M.e8,<-(T.head W.ac rfl:eO L (dG L M.up) l=none),ai.M.dn]
 obtain⟨E,F⟩:=F;have f:=T.zp F;refine g1 (cn.exists (f.1 top)) λa R c=>?_;have u:eO a (dG a (eO L (dG L M.up)))=M.up:=by
  refine Kn (c.turn f.1) (T.IT W.ac) ?_;have:(l::L.map (·.2.1)).getLast?=U top:=by refine hR P.k9 ?_;simp
  refine Z (List.head?_reverse) (Z this ?_);rfl
 refine⟨[.oH l top],rfl,.dZ ?_⟩;have n:∀x p,eO L (dG L M.up) x=U p->aj x/\aj p.1:=by intro x p e;obtain⟨y,v⟩:=p;exact K4 (f.2.1 _ _ _ e) (λm=>K4 (F.2.2 _ _ _ m) (λq=>W.nn _ _ q) λq=>(W.nn _ _ q).symm) λm=>K4 (F.2.2 _ _ _ m) (λq=>(W.nn _ _ q).symm) λq=>W.nn _ _ q
 have d:(cp M l r w L top).BE (eO a (dG a (aH (cp M l r w L top).up l none)))=M.ov (cp M l r w L top):=by have:aH (cp M l r w L top).up l none=eO L (dG L M.up):=b;refine Z this (Z u ?_);rfl
 exact hR d (fy.oH (M:=cp M l r w L top) (l:=l) (top:=top) (p:=(r,w)) (L:=a) (r:=R) (ai.M.aP _ _ _) (((Z b f.1):ik (aH (aH _ l _) l none))) (by refine(?_ :∀x p,aH (aH _ l _) l none x=U p->_);refine Z b ?_;exact n) (((Z b c):cn (aH (aH _ l _) l none) _ _ _)))
set_option tactic.hygienic true in
theorem gG.Km{N:Hs}{t u:Int}(n:aj (N.Y u)):gG N (cM N t u):=by
 unfold ai.L1.cM
 split
 ·rename_i c
  refine⟨[.jK (eR N u) t],rfl,.dZ ?_⟩
  have e:((N.bR (N.ak++[.jK (eR N u) t])).hG (aH N.bt (eR N u) none)).hG (aH (aH N.bt (eR N u) none) (eR N u) (U t))=N.ov ((N.bR (N.ak++[.jK (eR N u) t])).hG (aH N.bt (eR N u) none)):=by refine Z (by simp only[ai.M.e8,<-c,ai.M.dn]:aH (aH N.bt (eR N u) none) (eR N u) (U t)=N.bt) ?_;rfl
  simp only[<-e];exact(fy.jK (M:=(N.bR (N.ak++[.jK (eR N u) t])).hG (aH N.bt (eR N u) none)) (m:=eR N u) (t:=t) (qU n))
 ·exact .refl
set_option tactic.hygienic true in
theorem gG.eP{t u:Int}:gG N (cB N t u):=by
 unfold ai.L1.cB
 split
 ·rename_i c
  refine⟨[.g3 (eR N u)],rfl,.dZ ?_⟩
  have e:((N.bR (N.ak++[.g3 (eR N u)])).hG (aH N.bt (eR N u) (U t))).hG (aH (aH N.bt (eR N u) (U t)) (eR N u) none)=N.ov ((N.bR (N.ak++[.g3 (eR N u)])).hG (aH N.bt (eR N u) (U t))):=by refine Z (by simp only[ai.M.e8,<-c,ai.M.dn]:aH (aH N.bt (eR N u) (U t)) (eR N u) none=N.bt) ?_;rfl
  exact hR e (fy.g3 (M:=(N.bR (N.ak++[.g3 (eR N u)])).hG (aH N.bt (eR N u) (U t))) (m:=eR N u) (t:=t) (ai.M.aP _ _ _))
 ·split
  ·exact .refl
  ·exact .Hq rfl rfl
theorem Hs.Co:∀{a b:Hs},a.Y=b.Y->a.mem=b.mem->a.aM=b.aM->a.val=b.val->a.bl=b.bl->a.bK=b.bK->a.up=b.up->a.bt=b.bt->a.aC=b.aC->a.a7=b.a7->a.a4=b.a4->a.aw=b.aw->a.aU=b.aU->a.j2=b.j2->a.ak=b.ak->a.am=b.am->a.ce=b.ce->a=b:=by intro a b j k l m n o p q r h H c d e f g i;cases a;cases b;dsimp only at*;subst j k l m n o p q r h H c d e f g i;rfl
theorem iD{a b:Type}[DecidableEq a](f:a->b)(k:a)(v:b):aH (aH f k v) k (f k)=f:=by simp only[ai.M.e8,ai.M.dn]
theorem tz{f:Int->Int}{l:List Int}{s:Int}(h:∀x∈l,f x=s):ey l s (ey l g f)=f:=by
 funext x;rw[jg,jg];split;·exact(h x ‹_›).symm
 ·rfl
theorem gG.Ku{N:Hs}{s g:Int}(f:aj s)(G:aj g)(n:s≠g)(S:∀x∈N.mem s,aj x/\N.Y x=s)(L:(N.mem g).length<=aN)(h:(N.aM g).length<=aN)(i:(N.bl g).length<=aN)(j:(N.bK g).length<=aN):gG N (dO (dj (c7 N s g) s g) s g):=by
 have e:aH N.mem g (N.mem g++N.mem s) s=N.mem s:=ai.M.aI _ _ n;have tr:(dO (dj (c7 N s g) s g) s g).ak=N.ak++[.join s g (N.mem g).length (N.aM g).length (N.bl g).length (N.bK g).length (N.val g)]:=by refine Z (gE _ _ _) ?_;rfl
 refine⟨_,tr,.dZ ?_⟩;have E:aH (dO (dj (c7 N s g) s g) s g).val g (N.val g)=N.val:=by
  unfold dO;split;·exact(ai.M.e8 N.val g _ _).trans (ai.M.dn _ _)
  ·exact ai.M.dn _ _
 have u:=fy.join (M:=dO (dj (c7 N s g) s g) s g) (s:=s) (l:=g) (a:=(N.mem g).length) (b:=(N.aM g).length) (c:=(N.bl g).length) (d:=(N.bK g).length) (v:=N.val g) f G n
  (by refine Z (gE _ _ _) ?_;show∀t∈aH N.mem g (N.mem g++N.mem s) s,aj t;exact Z e λt m=>(S t m).1) L h i j;have k:z0 (dO (dj (c7 N s g) s g) s g) s g (N.mem g).length (N.aM g).length (N.bl g).length (N.bK g).length (N.val g)=N.ov (dO (dj (c7 N s g) s g) s g):=by
  have H:ey (aH N.mem g (N.mem g++N.mem s) s) s (ey (N.mem s) g N.Y)=N.Y:=Z e (tz λx m=>(S x m).2);exact Z (gE _ _ _) (Hs.Co H (by simp only[ai.M.aP,O4,iD]:aH (aH N.mem g (N.mem g++N.mem s)) g ((aH N.mem g (N.mem g++N.mem s) g).take (N.mem g).length)=N.mem) (by simp only[ai.M.aP,O4,iD]:aH (aH N.aM g (N.aM g++N.aM s)) g ((aH N.aM g (N.aM g++N.aM s) g).take (N.aM g).length)=N.aM) E (by simp only[ai.M.aP,O4,iD]:aH (aH N.bl g (N.bl g++N.bl s)) g ((aH N.bl g (N.bl g++N.bl s) g).take (N.bl g).length)=N.bl) (by simp only[ai.M.aP,O4,iD]:aH (aH N.bK g (N.bK g++N.bK s)) g ((aH N.bK g (N.bK g++N.bK s) g).take (N.bK g).length)=N.bK) rfl rfl rfl rfl rfl rfl rfl rfl rfl rfl rfl)
 exact hR k u
theorem jB(N:Hs)(t:Int):(be N t).Y=N.Y:=by
 unfold be;split;·exact ri _ _ _
 ·rfl
theorem rB(N:Hs)(t:Int):(ba N t).Y=N.Y:=by
 unfold ba;split;·exact lW _ _ _
 ·rfl
theorem gG.HJ:∀(l:List Int) {N:Hs},(∀t,aj t->aj (N.Y t))->gG N (aT N l)
 |[],N,_=>.refl
 |t::l,N,r=>by
  have a:gG N (be N t):=by
   unfold be;split;·exact .Km (r _ (aZ ‹_›).2)
   ·exact .refl
  exact a.trans (gG.HJ l (Z (jB _ _) r))
theorem gG.Dp:∀(l:List Int) {N:Hs},gG N (br N l)
 |[],N=>.refl
 |t::l,N=>by
  have a:gG N (ba N t):=by
   unfold ba;split;·exact .eP
   ·exact .refl
  exact a.trans (gG.Dp l)
theorem gG.jT{n:Hs}{t:Int}(T:lA N t n):gG N n:=by
 have key:∀c,N.a7 t=none->gG N (dX N t c):=by intro c e;exact⟨[.a7 t],rfl,.dZ (hR (Hs.Co rfl rfl rfl rfl rfl rfl rfl rfl rfl (by simp only[ai.M.e8,<-e,ai.M.dn]:aH (aH N.a7 t (U c)) t none=N.a7) rfl rfl rfl rfl rfl rfl rfl:(dX N t c).qh (aH (dX N t c).a7 t none)=N.ov (dX N t c)) (fy.a7 (M:=dX N t c) (t:=t) (c:=c) (ai.M.aP _ _ _)))⟩
 induction T with
 |vk=>exact .refl
 |eq e _ _=>exact key _ e
 |ne e _ _ _=>exact key _ e
theorem gG.AQ{n:Hs}{l:List Int}(T:iU N l n):gG N n:=by
 induction T with
 |nil=>exact .refl
 |cons t _ i=>exact(gG.jT t).trans i
theorem gG.aU{c:Option (List Int)}{k:Nat}:gG N (N.d8 c k):=.Hq rfl rfl
theorem gG.aw{l:List (Int×Int×Option Int)}:gG N (N.cV l):=.Hq rfl rfl
theorem gG.J7{N:Hs}{a b r:Int}(A:aj (N.Y a))(B:aj (N.Y b))(n:N.Y a≠N.Y b)(l:(N.bl (N.Y a)).length<aN)(L:(N.bl (N.Y b)).length<aN):gG N (hm N a b r):=by
 refine⟨[.apart (N.Y a) (N.Y b)],rfl,.dZ ?_⟩;have e:aH (aH (aH (aH N.bl (N.Y a) (N.bl (N.Y a)++[(a,b,r)])) (N.Y b) (N.bl (N.Y b)++[(a,b,r)])) (N.Y a) (N.bl (N.Y a))) (N.Y b) (N.bl (N.Y b))=N.bl:=by
  (refine Z (ai.M.iP _ _ _ n.symm) ?_;rw[ai.M.e8,iD,ai.M.dn])
 exact hR (Hs.Co rfl rfl rfl rfl e rfl rfl rfl rfl rfl rfl rfl rfl rfl rfl rfl rfl:((hm N a b r).hv (N.Y a) (N.bl (N.Y a))).hv (N.Y b) (N.bl (N.Y b))=N.ov (hm N a b r)) (fy.apart (M:=hm N a b r) A B ((ai.M.aI _ _ n).trans (ai.M.aP _ _ _):(hm N a b r).bl (N.Y a)=N.bl (N.Y a)++[(a,b,r)]) ((ai.M.aI _ _ n.symm).trans (ai.M.aP _ _ _):((hm N a b r).hv (N.Y a) (N.bl (N.Y a))).bl (N.Y b)=N.bl (N.Y b)++[(a,b,r)]) l L)
theorem gG.b6{l r top:Int}{w:Option Int}{L:List eN}(W:hO M.up)(P:cn M.up l L top)(F:∃E,ai.M.b7 M.up E)(R:∀t,aj t->aj (M.Y t))(n:aj l)(N:aj r)(a:M.Y l≠M.Y r)(m:∀x∈M.mem (M.Y l),aj x/\M.Y x=M.Y l)
  (b:(M.mem (M.Y r)).length<=aN)(c:(M.aM (M.Y r)).length<=aN)(d:(M.bl (M.Y r)).length<=aN)(f:(M.bK (M.Y r)).length<=aN):gG M (b6 M l r w L top):=by
 have g:(aT (cp M l r w L top) (M.aM (M.Y l))).Y=M.Y/\(aT (cp M l r w L top) (M.aM (M.Y l))).mem=M.mem/\(aT (cp M l r w L top) (M.aM (M.Y l))).aM=M.aM/\(aT (cp M l r w L top) (M.aM (M.Y l))).bl=M.bl/\(aT (cp M l r w L top) (M.aM (M.Y l))).bK=M.bK:=by exact Z (fc (M.aM (M.Y l)) (cp M l r w L top)) ⟨rfl,rfl,rfl,rfl,rfl⟩
 exact oW g λh e i j k=>(((gG.Kp W P F).trans (.HJ _ R):gG M (aT (cp M l r w L top) (M.aM (M.Y l)))).trans (gG.Ku (R _ n) (R _ N) a (Z h (Z e m)) (Z e b) (Z i c) (Z j (d)) (Z k f))).trans (.Dp _)
theorem vf(N:Hs)(u:Int):eR N u=[0,N.Y u]:=rfl
set_option tactic.hygienic true in
theorem sf{s:Int}:∀(l:List Int) {N:Hs},(∀t∈l,∃u,ai.M.arg t=U u/\N.Y u=s)->(∀m,m≠[0,s]->(aT N l).bt m=N.bt m)/\∀o,(aT N l).bt [0,s]=U o->o∉l/\N.bt [0,s]=U o
 |[],N,_=>⟨λ_ _=>rfl,λo e=>⟨MU,e⟩⟩
 |t::l,N,h=>by
  refine aD (h t KX) λu H r=>?_
  have E:be N t=cM N t u:=by unfold be;exact Z H rfl
  refine ay (sf l (N:=be N t) λx m=>Z (jB N t) (h x (K1 _ m))) λa b=>?_
  have S:(∀m,m≠[0,s]->(be N t).bt m=N.bt m)/\∀o,(be N t).bt [0,s]=U o->o≠t/\N.bt [0,s]=U o:=by
   refine Z E ?_
   unfold cM
   (rw[vf];refine Z r ?_)
   split
   ·exact⟨λm n=>ai.M.aI _ _ n,λo e=>by have e:aH N.bt [0,s] KT [0,s]=U o:=e;rw[ai.M.aP] at e;exact al e⟩
   ·rename_i c
    exact⟨λ_ _=>rfl,λo e=>⟨λq=>c (hR q e),e⟩⟩
  exact⟨λm n=>(a m n).trans (S.1 m n),λo e=>ay (b o e) λB d=>ay (S.2 o d) λC f=>⟨λm=>(KZ.mp m).elim C B,f⟩⟩
inductive Hr(N J:Hs)(l:List Int)(g:Int):Prop
 |mk (a:∀m,m≠[0,g]->J.bt m=N.bt m) (b:∀o,J.bt [0,g]=U o->N.bt [0,g]=U o\/o∈l) (c:∀o,N.bt [0,g]=U o->J.bt [0,g]=U o) (q:List (Int×Int×Option Int)) (d1:J.aw=N.aw++q) (d:q.length<=l.length)
   (D:∀e∈q,∃t o,e=(t,o,KT)/\t∈l/\J.bt [0,g]=U o) (e:∀t∈l,∃o,J.bt [0,g]=U o/\(N.Y o=N.Y t\/(t,o,KT)∈q))
theorem p8{g:Int}:∀(l:List Int) {N:Hs},(∀t∈l,∃u,ai.M.arg t=U u/\N.Y u=g)->Hr N (br N l) l g
 |[],N,_=>⟨λ_ _=>rfl,λo e=>.inl e,λo e=>e,[],(Lk _).symm,K9 _,λ_ m=>(nomatch m),λ_ m=>(nomatch m)⟩
 |t::l,N,h=>by
  refine aD (h t KX) λu p R=>?_;have d:ba N t=cB N t u:=by unfold ba;exact Z p rfl
  have k:=rB N t;obtain⟨a,b,c,q,d1,D,j,e⟩:=p8 l (N:=ba N t) λx m=>Z k (h x (K1 _ m));have L:br N (t::l)=br (ba N t) l:=rfl;replace e:=k▸e;refine Z L ?_;induction H:N.bt [0,g] with
  |none=>
   have E:ba N t=(N.bR (N.ak++[.g3 [0,g]])).hG (aH N.bt [0,g] (U t)):=by refine Z d ?_;unfold cB;simp only[vf,R,H]
   have s:(ba N t).bt [0,g]=U t:=Z E (ai.M.aP _ _ _);have T:=c t s;have Q:(ba N t).aw=N.aw:=by refine Z E ?_;rfl
   rw[Q] at d1;refine⟨λm n=>(a m n).trans (Z E (ai.M.aI _ _ n)),λo f=>.inr ?_,λo f=>(by rw[H] at f;exact al f),q,d1,LH D,λx m=>cR (j x m) λy o d E i=>⟨y,o,d,K1 _ E,i⟩,λx m=>?_⟩;·rw[T] at f;(replace f:=KP f;subst f);exact KX
   ·rcases KZ.mp m with rfl |m
    ·exact⟨x,T,.inl rfl⟩
    ·exact e x m
  |some o=>
   have E:ba N t=if N.Y o=N.Y t then N else N.cV (N.aw++[(t,o,KT)]):=by refine Z d ?_;unfold cB;simp only[vf,R,H]
   have v:(ba N t).bt=N.bt:=by refine Z E ?_;split<;>rfl
   rw[v] at a b c;have T:=c o H;have B:∀x,(br (ba N t) l).bt [0,g]=U x->N.bt [0,g]=U x\/x∈t::l:=λx ex=>(b x ex).imp id (K1 _);by_cases r:N.Y o=N.Y t
   ·rw[if_pos r] at E
    have Q:(ba N t).aw=N.aw:=Z E rfl;rw[Q] at d1;refine⟨a,B,c,q,d1,LH D,λx m=>cR (j x m) λy o d E i=>⟨y,o,d,K1 _ E,i⟩,λx m=>?_⟩
    ·rcases KZ.mp m with rfl |m
     ·exact⟨o,T,.inl r⟩
     ·exact e x m
   ·rw[if_neg r] at E
    have Q:(ba N t).aw=N.aw++[(t,o,KT)]:=by refine Z E ?_;rfl
    rw[Q,Lj] at d1;refine⟨a,B,c,_,d1,Lp D,λx m=>?_,λx m=>?_⟩
    ·refine K4 (KZ.mp m) (λrfl=>⟨t,o,rfl,KX,T⟩) λm=>?_
     ·exact cR (j x m) λy o d E i=>⟨y,o,d,K1 _ E,i⟩
    ·rcases KZ.mp m with rfl |m
     ·exact⟨o,T,.inr KX⟩
     ·exact aD (e x m) λo w z=>⟨o,w,z.imp id (K1 _)⟩
theorem qT(N:Hs)(t:Int):ba N t={N with ak:=(ba N t).ak,bt:=(ba N t).bt,aw:=(ba N t).aw}:=by
 unfold ba;split
 ·unfold cB
  split;·rfl
  ·split<;>rfl
 ·rfl
theorem ke:∀(l:List Int) (N:Hs),br N l={N with ak:=(br N l).ak,bt:=(br N l).bt,aw:=(br N l).aw}
 |[],N=>rfl
 |t::l,N=>by refine((Z (ke l (ba N t)) ?_):br (ba N t) l={N with ak:=(br (ba N t) l).ak,bt:=(br (ba N t) l).bt,aw:=(br (ba N t) l).aw});dsimp only;exact Z (qT N t) rfl
theorem sY:∀(l:List Int) (N:Hs),(aT N l).ak.length<=N.ak.length+l.length
 |[],N=>K9 _
 |t::l,N=>by
  have a:=sY l (be N t);have b:(be N t).ak.length<=N.ak.length+1:=by
   unfold be;split;·exact lZ _ _ _
   ·exact LN _
  simp only[LK];exact((bM (lN _ _ _ _) 0x711139813719a13a1138 rfl a b):(aT (be N t) l).ak.length<=_)
theorem qv:∀(l:List Int) (N:Hs),(br N l).ak.length<=N.ak.length+l.length
 |[],N=>K9 _
 |t::l,N=>by
  have a:=qv l (ba N t);have b:(ba N t).ak.length<=N.ak.length+1:=by
   unfold ba;split;·exact(ow _ _ _).1
   ·exact LN _
  simp only[LK];exact((bM (lN _ _ _ _) 0x711139813719a13a1138 rfl a b):(br (ba N t) l).ak.length<=_)
structure JF(M J:Hs)(l r:Int)(w:Option Int)(L:List eN):Prop where
 Y:∀x,J.Y x=if x∈M.mem (M.Y l) then M.Y r else M.Y x
 mem:J.mem=aH M.mem (M.Y r) (M.mem (M.Y r)++M.mem (M.Y l))
 aM:J.aM=aH M.aM (M.Y r) (M.aM (M.Y r)++M.aM (M.Y l))
 bl:J.bl=aH M.bl (M.Y r) (M.bl (M.Y r)++M.bl (M.Y l))
 bK:J.bK=aH M.bK (M.Y r) (M.bK (M.Y r)++M.bK (M.Y l))
 val:J.val=if M.val (M.Y r)=0 then aH M.val (M.Y r) (M.val (M.Y l)) else M.val
 up:J.up=aH (eO L (dG L M.up)) l (U (r,w))
 b5:J.aC=M.aC/\J.a7=M.a7/\J.a4=M.a4/\J.aU=M.aU/\J.am=M.am/\J.j2=M.j2/\J.ce=M.ce
 t1:∀m,m≠[0,M.Y l]->m≠[0,M.Y r]->J.bt m=M.bt m
 t2:∀o,J.bt [0,M.Y l]=U o->o∉M.aM (M.Y l)/\M.bt [0,M.Y l]=U o
 t3:∀o,J.bt [0,M.Y r]=U o->M.bt [0,M.Y r]=U o\/o∈M.aM (M.Y l)
 t4:∀o,M.bt [0,M.Y r]=U o->J.bt [0,M.Y r]=U o
 q:∃q,J.aw=M.aw++q/\q.length<=(M.aM (M.Y l)).length/\(∀e∈q,∃t o,e=(t,o,KT)/\t∈M.aM (M.Y l)/\J.bt [0,M.Y r]=U o)/\∀t∈M.aM (M.Y l),∃o,J.bt [0,M.Y r]=U o/\(J.Y o=J.Y t\/(t,o,KT)∈q)
 tr:J.ak.length<=M.ak.length+2+2*(M.aM (M.Y l)).length
theorem JF.of{l r top:Int}{w:Option Int}{L:List eN}(G:M.Y l≠M.Y r)(y:∀t∈M.aM (M.Y l),∃u,ai.M.arg t=U u/\M.Y u=M.Y l/\u∈M.mem (M.Y l)):JF M (b6 M l r w L top) l r w L:=by
 have n:=fc (M.aM (M.Y l)) (cp M l r w L top);have i:=sf (s:=M.Y l) (M.aM (M.Y l)) (N:=cp M l r w L top) λt m=>by exact gw (y t m) λu a b _=>⟨u,a,b⟩
 have z:=sY (M.aM (M.Y l)) (cp M l r w L top);have I:(cp M l r w L top).ak.length=M.ak.length+1:=bf _;refine(?_ :JF M (br (dO (dj (c7 (aT (cp M l r w L top) (M.aM (M.Y l))) (M.Y l) (M.Y r)) (M.Y l) (M.Y r)) (M.Y l) (M.Y r)) (M.aM (M.Y l))) l r w L);generalize aT (cp M l r w L top) (M.aM (M.Y l))=N at n i z⊢;have P:N.Y=M.Y:=(congrArg Hs.Y n:);have F:N.mem=M.mem:=(congrArg Hs.mem n:);have E:=gE (dj (c7 N (M.Y l) (M.Y r)) (M.Y l) (M.Y r)) (M.Y l) (M.Y r);have V:(dO (dj (c7 N (M.Y l) (M.Y r)) (M.Y l) (M.Y r)) (M.Y l) (M.Y r)).val=if M.val (M.Y r)=0 then aH M.val (M.Y r) (M.val (M.Y l)) else M.val:=by refine hR ((congrArg Hs.val n:):N.val=M.val) (?_ :(if N.val (M.Y r)=0 then _ else _:Hs).val=_);split<;>rfl
 generalize dO (dj (c7 N (M.Y l) (M.Y r)) (M.Y l) (M.Y r)) (M.Y l) (M.Y r)=K at E V⊢;have A:∀x,K.Y x=if x∈M.mem (M.Y l) then M.Y r else M.Y x:=λx=>by refine(congrFun (congrArg Hs.Y E:) x).trans ((jg (M.Y r) x (N.mem (M.Y l)) N.Y).trans ?_);rw[P,F]
 have k:K.bt=N.bt:=(congrArg Hs.bt E:);have v:K.ak.length=N.ak.length+1:=(congrArg (λH:Hs=>H.ak.length) E).trans (bf _);have B:=p8 (g:=M.Y r) (M.aM (M.Y l)) (N:=K) λt m=>by refine gw (y t m) λu a b c=>?_;exact⟨u,a,by(rw[A];exact Z (if_pos c) rfl)⟩
 have C:=qv (M.aM (M.Y l)) K;have j:=ke (M.aM (M.Y l)) K;generalize br K (M.aM (M.Y l))=J at B C j⊢;have D:J.Y=K.Y:=(congrArg Hs.Y j:);obtain⟨a,b,c,q,d1,Q,R,e⟩:=B;have d:([0,M.Y l]:List Int)≠[0,M.Y r]:=λq=>G (by injection q with _ q;injection q);rw[((congrArg Hs.aw E:).trans ((congrArg Hs.aw n:):N.aw=M.aw):K.aw=M.aw)] at d1;have h:∀{S:Type} (p:Hs->S),p K=p N->p N=p M->p J=p K->p J=p M:=λp a b c=>c.trans (a.trans b);refine⟨λx=>by refine Z D ?_;exact A x,(congrArg Hs.mem j:).trans ((congrArg Hs.mem E:).trans ?_),(congrArg Hs.aM j:).trans ((congrArg Hs.aM E:).trans ?_),(congrArg Hs.bl j:).trans ((congrArg Hs.bl E:).trans ?_),(congrArg Hs.bK j:).trans ((congrArg Hs.bK E:).trans ?_),(congrArg Hs.val j:).trans V,(congrArg Hs.up j:).trans ((congrArg Hs.up E:).trans (congrArg Hs.up n:)),
  ⟨h _ (congrArg Hs.aC E:) (congrArg Hs.aC n:) (congrArg Hs.aC j:),h _ (congrArg Hs.a7 E:) (congrArg Hs.a7 n:) (congrArg Hs.a7 j:),h _ (congrArg Hs.a4 E:) (congrArg Hs.a4 n:) (congrArg Hs.a4 j:),h _ (congrArg Hs.aU E:) (congrArg Hs.aU n:) (congrArg Hs.aU j:),h _ (congrArg Hs.am E:) (congrArg Hs.am n:) (congrArg Hs.am j:),h _ (congrArg Hs.j2 E:) (congrArg Hs.j2 n:) (congrArg Hs.j2 j:),h _ (congrArg Hs.ce E:) (congrArg Hs.ce n:) (congrArg Hs.ce j:)⟩,
  λm T W=>?_,λo f=>?_,λo f=>?_,λo f=>?_,⟨q,d1,Q,R,by refine Z D ?_;exact e⟩,bM (KH _ _ _ _ _ _) 0x712923123813a113813b19a13c113b13719c rfl (K2 I) z (K2 v) C⟩;·refine hR F ?_;rfl
 ·refine hR ((congrArg Hs.aM n:):N.aM=M.aM) ?_;rfl
 ·refine hR ((congrArg Hs.bl n:):N.bl=M.bl) ?_;rfl
 ·refine hR ((congrArg Hs.bK n:):N.bK=M.bK) ?_;rfl
 ·exact Z (a m W) (Z k (i.1 m T))
 ·rw[a _ d,k] at f;exact i.2 o f
 ·have:=b o f
  rw[k,i.1 _ d.symm] at this;exact this
 ·exact c o (Z k (Z (i.1 _ d.symm) f))
open ai.M (cj cf Cl dT b7 pJ lK)
noncomputable abbrev tw:=ai.M.arg
structure bm where
 je:Bool
 x:Int
 y:Int
 m:Int
def zw(F:List bm)(m x y:Int):Prop:=(⟨true,x,y,m⟩:bm)∈F\/(⟨true,y,x,m⟩:bm)∈F
def tj(F:List bm)(m x y:Int):Prop:=(⟨false,x,y,m⟩:bm)∈F
def num(x:Int):Prop:=x=7\/x=8
theorem cd(h:num x):aj x:=by rcases h with rfl |rfl<;>decide
noncomputable def sm(f:Int->Nat):List Int->Nat
 |[]=>0
 |t::l=>f t+sm f l
theorem iV{f g:Int->Nat}:∀{l:List Int},(∀t∈l,f t=g t)->sm f l=sm g l
 |[],_=>rfl
 |t::l,h=>by exact((Z (h t KX) (Z (iV λx m=>h x (K1 _ m)) rfl)):f t+sm f l=g t+sm g l)
theorem DA{f:Int->Nat}{t:Int}:∀{l:List Int},t∈l->f t<=sm f l
 |a::l,m=>by
  refine(?_ :f t<=f a+sm f l);rcases KZ.mp m with rfl |m
  ·exact Lr _ _
  ·exact KQ (DA m) (Ng _ _)
theorem rg{h:Int->Nat}{s:Int}:∀{l:List Int},l.Nodup->sm (λt=>if t=s then 0 else h t) l+(if s∈l then h s else 0)=sm h l
 |[],_=>rfl
 |a::l,n=>by
  have n:=Ll.mp n;have i:=rg (h:=h) (s:=s) n.2;refine(?_ :(if a=s then 0 else h a)+sm _ l+(if s∈a::l then h s else 0)=h a+sm h l);by_cases c:a=s
  ·subst c
   refine Z (if_pos rfl) (Z (if_pos KX) ?_);rw[if_neg n.1] at i;exact Md (bM (io _ _ _) 0x1817031981310379 rfl (K2 i)) (bM (io _ _ _) 0x1871719031381039 rfl (K2 i.symm))
  ·refine Z (if_neg c) ?_
   simp only[(propext ⟨λm=>(KZ.mp m).elim (λe=>(c e.symm).elim) id,K1 _⟩:(s∈a::l)=(s∈l))];exact Md (bM (lN _ _ _ _) 0x191871a713198a rfl (K2 i)) (bM (lN _ _ _ _) 0x1871a1971381a9 rfl (K2 i.symm))
theorem oL{h:Int->Nat}{g:Int}{d:Nat}:∀{l:List Int},l.Nodup->sm (λt=>if t=g then h t+d else h t) l=sm h l+(if g∈l then d else 0)
 |[],_=>rfl
 |a::l,n=>by
  have n:=Ll.mp n;have i:=oL (h:=h) (g:=g) (d:=d) n.2;refine(?_ :(if a=g then h a+d else h a)+sm _ l=h a+sm h l+(if g∈a::l then d else 0));by_cases c:a=g
  ·subst c
   refine Z (if_pos rfl) (Z (if_pos KX) ?_);rw[if_neg n.1] at i;exact Md (bM (lN _ _ _ _) 0x19187181a7139103a rfl (K2 i)) (bM (lN _ _ _ _) 0x191871a197131038a rfl (K2 i.symm))
  ·refine Z (if_neg c) ?_
   simp only[(propext ⟨λm=>(KZ.mp m).elim (λe=>(c e.symm).elim) id,K1 _⟩:(g∈a::l)=(g∈l))];exact Md (bM (lN _ _ _ _) 0x1871a1971381a9 rfl (K2 i)) (bM (lN _ _ _ _) 0x191871a713198a rfl (K2 i.symm))
theorem dx:ar.Nodup:=by decide
noncomputable def oD(M:Hs)(f:Int->Nat):Nat:=sm (λt=>if M.Y t=t then f t else 0) ar
theorem lB{f:Int->Nat}(n:aj t)(r:M.Y t=t):f t<=oD M f:=by have:=DA (f:=λt=>if M.Y t=t then f t else 0) (aR n);simp only[if_pos r] at this;exact this
theorem hP{t:Int}(h:t∈ar):aj t:=by exact(by decide:∀t∈ar,3<=t/\t<=11) t h
theorem ky{J:Hs}{f F:Int->Nat}(S:aj s)(n:aj g)(R:M.Y s=s)(r:M.Y g=g)(N:s≠g)(j:∀t,aj t->(J.Y t=t↔M.Y t=t/\t≠s))(G:F g=f g+f s)(H:∀t,t≠g->F t=f t):oD J F=oD M f:=by
 have a:=rg (h:=λt=>if M.Y t=t then f t else 0) (s:=s) dx;have b:=oL (h:=λt=>if t=s then 0 else if M.Y t=t then f t else 0) (g:=g) (d:=f s) dx;replace a:=(if_pos R)▸(if_pos (aR S))▸a;replace b:=(if_pos (aR n))▸b;have c:oD J F=sm (λt=>if t=g then(if t=s then 0 else if M.Y t=t then f t else 0)+f s else(if t=s then 0 else if M.Y t=t then f t else 0)) ar:=by
  refine iV λt m=>?_;have h:=j t (hP m);by_cases i:t=g
  ·clear b H n;subst i
   exact Z (if_pos rfl) (Z (if_pos (h.mpr ⟨r,N.symm⟩)) (Z (if_neg N.symm) (Z (if_pos r) (Z G rfl))))
  ·refine Z (if_neg i) (Z (H t i) ?_)
   by_cases e:t=s;·exact Z (if_pos e) (Z (if_neg λq=>(h.mp q).2 e) rfl)
   ·refine Z (if_neg e) ?_
    by_cases E:M.Y t=t;·exact Z (if_pos E) (Z (if_pos (h.mpr ⟨E,e⟩)) rfl)
    ·exact Z (if_neg E) (Z (if_neg λq=>E (h.mp q).1) rfl)
 exact Z c (Z b (a))
noncomputable def cls(M:Hs):Nat:=oD M λ_=>1
theorem Bg{J:Hs}(n:aj s)(r:M.Y s=s)(H:∀t,aj t->(J.Y t=t↔M.Y t=t/\t≠s)):cls J+1=cls M:=by
 have a:=rg (h:=λt=>if M.Y t=t then 1 else 0) (s:=s) dx;rw[if_pos (aR n),if_pos r] at a;have c:cls J=sm (λt=>if t=s then 0 else if M.Y t=t then 1 else 0) ar:=by
  refine iV λt m=>?_;have h:=H t (hP m);by_cases e:t=s;·exact Z (if_pos e) (Z (if_neg λq=>(h.mp q).2 e) rfl)
  ·refine Z (if_neg e) ?_
   by_cases E:M.Y t=t;·exact Z (if_pos E) (Z (if_pos (h.mpr ⟨E,e⟩)) rfl)
   ·exact Z (if_neg E) (Z (if_neg λq=>E (h.mp q).1) rfl)
 exact Z c (a)
structure cN(F:List bm)(M:Hs)(E:List cj)(P:List (Int×Int×Option Int)):Prop where
 fo:b7 M.up E
 en:∀x y w,(x,y,w)∈E->aj x/\aj y
 gr:dT (zw F) E
 ro:∀x y,aj x->aj y->(M.Y x=M.Y y↔cf E x y)
 rn:∀x,aj x->aj (M.Y x)
 rr:∀x,aj x->M.Y (M.Y x)=M.Y x
 me:∀t,aj t->M.Y t=t->∀x,x∈M.mem t↔aj x/\M.Y x=t
 us:∀t,aj t->M.Y t=t->∀x,x∈M.aM t↔∃u,tw x=U u/\M.Y u=t
 va:∀t,aj t->M.Y t=t->M.val t≠0->num (M.val t)/\M.Y (M.val t)=t
 vb:∀x,num x->M.val (M.Y x)≠0
 ap:∀t,aj t->M.Y t=t->∀p∈M.bl t,tj F p.2.2 p.1 p.2.1
 an:∀t,aj t->∀p∈M.bl t,aj p.1/\aj p.2.1
 ac:∀m x y,tj F m x y->(x,y,m)∈M.bl (M.Y x)/\(x,y,m)∈M.bl (M.Y y)
 fn:∀f∈F,aj f.x/\aj f.y
 wa:∀t,aj t->∀w∈M.bK t,∃s,M.aC w=U s
 si:∀t p,M.aC t=U p->aj p.1/\aj p.2/\t∈fw
 tb:∀m o,M.bt m=U o->∃u,tw o=U u/\m=[0,M.Y u]
 tq:∀t u,tw t=U u->∃o,M.bt [0,M.Y u]=U o/\(M.Y o=M.Y t\/(t,o,KT)∈P)
 pn:∀e∈P,aj e.1/\aj e.2.1/\(∀m,e.2.2=U m->zw F m e.1 e.2.1)/\(e.2.2=KT->∃u v,tw e.1=U u/\tw e.2.1=U v/\M.Y u=M.Y v)
 ti:∀m x y,(⟨true,x,y,m⟩:bm)∈F->M.Y x=M.Y y\/(x,y,U m)∈P
 b1:oD M (λt=>(M.mem t).length)<=9
 b2:oD M (λt=>(M.aM t).length)<=3
 b3:oD M (λt=>(M.bl t).length)<=2*F.length
 b4:oD M (λt=>(M.bK t).length)<=6
theorem vS(F:b7 up E)(r:a6 up x y):cf E x y:=by
 induction r with
 |refl=>exact .refl
 |step e _ i=>exact K4 (F.2.1 _ _ _ e) (λm=>(cf.uO .refl m).trans i) λm=>(cf.wL .refl m).trans i
theorem fU{a:Type}{f:Int->List a}{s:Int}:(aH f g (f g++f s) t).length=if t=g then(f g).length+(f s).length else(f t).length:=by
 by_cases c:t=g;·subst c;(exact Z (ai.M.aP _ _ _) (Z (if_pos rfl) (Z KW rfl)))
 ·exact Z (ai.M.aI _ _ c) (Z (if_neg c) rfl)
variable {F:List bm}
section
variable {Ub:Hs} {E:List cj} {P q:List (Int×Int×Option Int)} {a b l r top:Int} {w:Option Int} {L:List eN}
theorem i5{a:Type}{f:Int->List a}{s:Int}{x:a}:x∈aH f g (f g++f s) t↔(t=g/\(x∈f g\/x∈f s))\/(t≠g/\x∈f t):=by
 by_cases c:t=g
 ·subst c;rw[ai.M.aP,K8]
  exact⟨λh=>.inl ⟨rfl,h⟩,λh=>h.elim (λk=>k.2) λk=>(k.1 rfl).elim⟩
 ·exact Z (ai.M.aI _ _ c) ⟨λh=>.inr ⟨c,h⟩,λh=>h.elim (λk=>(c k.1).elim) λk=>k.2⟩
theorem cN.Y(C:cN F M E P)(n:aj l)(X:JF M Ub l r w L)(x:Int)(nx:aj x):Ub.Y x=if M.Y x=M.Y l then M.Y r else M.Y x:=by
 rw[X.Y];have:=C.me _ (C.rn l n) (C.rr l n) x;by_cases c:M.Y x=M.Y l;·rw[if_pos c,if_pos (this.mpr ⟨nx,c⟩)]
 ·rw[if_neg c,if_neg λm=>c (this.mp m).2]
theorem cN.D0(C:cN F M E P)(n:aj l)(N:aj r)(a:M.Y l≠M.Y r)(X:JF M Ub l r w L)(t:Int)(T:aj t):Ub.Y t=t↔M.Y t=t/\t≠M.Y l:=by
 refine Z (C.Y n X t T) ?_;by_cases c:M.Y t=M.Y l
 ·refine Z (if_pos c) ⟨λe=>?_,λe=>(e.2 (e.1.symm.trans c)).elim⟩
  rw[<-e,C.rr r N] at c;exact(a c.symm).elim
 ·exact Z (if_neg c) ⟨λe=>⟨e,λq=>c (Z q (Z (C.rr l n) rfl))⟩,λe=>e.1⟩
set_option tactic.hygienic true in
theorem cN.join(C:cN F M E ((a,b,w)::P))(ne:M.Y l≠M.Y r)(or:(l=a/\r=b)\/(l=b/\r=a))(Pt:cn M.up l L top)(X:JF M Ub l r w L)(bn:∀e∈q,∃t o,e=(t,o,none)/\t∈M.aM (M.Y l)/\Ub.bt [0,M.Y r]=U o)
  (bs:∀t∈M.aM (M.Y l),∃o,Ub.bt [0,M.Y r]=U o/\(Ub.Y o=Ub.Y t\/(t,o,none)∈q)):cN F Ub (E++[(l,r,w)]) (P++q):=by
 refine fe (C.pn _ KX) λna nb ht hn=>?_
 have G:aj l:=by refine K4 or (λaa=>ay aa λh _=>?_) λac=>ay ac λh _=>?_ <;>refine Z h ?_ <;>assumption
 have J:aj r:=by refine K4 or (λaf=>ay af λ_ h=>?_) λag=>ay ag λ_ h=>?_ <;>refine Z h ?_ <;>assumption
 have S:=C.rn l G
 have I:=C.rn r J
 have R:=C.rr l G
 have rg:=C.rr r J
 have K:=C.Y G X
 have kt:=C.D0 G J ne X
 have same:∀{x y},aj x->aj y->M.Y x=M.Y y->Ub.Y x=Ub.Y y:=λnx n e=>by simp only[K _ nx,K _ n,e]
 have W:Ub.Y a=Ub.Y b:=by refine K4 or (λan=>ay an λh k=>?_) λap=>ay ap λh k=>?_ <;>simp only[<-h,<-k,(Z (K l G) (Z (if_pos rfl) rfl):Ub.Y l=M.Y r),(Z (K r J) (Z (if_neg λe=>ne e.symm) rfl):Ub.Y r=M.Y r)]
 have keep:∀{x t},aj x->M.Y x=t->t≠M.Y l->Ub.Y x=t:=λnx e c=>Z (K _ nx) (Z (if_neg λq=>c (e.symm.trans q)) (Z e rfl))
 have D:∀{x},aj x->M.Y x=M.Y l->Ub.Y x=M.Y r:=λnx e=>Z (K _ nx) (Z (if_pos e) rfl)
 have s:∀{x},aj x->M.Y x=M.Y r->Ub.Y x=M.Y r:=λnx e=>keep nx e ne.symm
 have T:=Pt.turn C.fo.1
 have F':=T.zp C.fo
 refine⟨?_,λx y v m=>?_,?_,λx y nx n=>?_,λx nx=>?_,λx nx=>?_,λt N rt x=>?_,λt N rt x=>?_,λt N rt v=>?_,λx nx=>?_,λt N rt p A=>?_,λt N p A=>?_,λm x y A=>?_,C.fn,λt N v hv=>?_,λt p A=>?_,λm o eo=>?_,λt u hu=>?_,λe m=>?_,λm x y hm=>?_,Z (ky S I R rg ne kt (f:=λt=>(M.mem t).length) (by rw[X.mem,fU,if_pos rfl]) λt h=>by rw[X.mem,fU,if_neg h]) C.b1,Z (ky S I R rg ne kt (f:=λt=>(M.aM t).length) (by rw[X.aM,fU,if_pos rfl]) λt h=>by rw[X.aM,fU,if_neg h]) C.b2,Z (ky S I R rg ne kt (f:=λt=>(M.bl t).length) (by rw[X.bl,fU,if_pos rfl]) λt h=>by rw[X.bl,fU,if_neg h]) C.b3,Z (ky S I R rg ne kt (f:=λt=>(M.bK t).length) (by rw[X.bK,fU,if_pos rfl]) λt h=>by rw[X.bK,fU,if_neg h]) C.b4⟩
 ·exact Z X.up (lK F' (T.head C.fo.1 rfl) λrc=>ne (((C.ro r l J G).mpr (vS F' rc)).symm))
 ·rcases K8.mp m with m |m
  ·exact C.en _ _ _ m
  ·cases KU.mp m;exact⟨G,J⟩
 ·clear X;induction w with
  |some m=>
   refine .je C.gr ?_
   have:=ht m rfl
   clear hn ht nb na C W
   rcases or with⟨rfl,rfl⟩ |⟨rfl,rfl⟩
   ·exact this
   ·exact this.symm
  |none=>
   refine cR (hn rfl) λu v i g B=>?_
   have k:=(C.ro u v (aZ i).2 (aZ g).2).mp B
   clear hn ht nb na W
   rcases or with⟨rfl,rfl⟩ |⟨rfl,rfl⟩
   ·exact .args C.gr i g k
   ·exact .args C.gr g i k.symm
 ·have j:∀{x y},cf E x y->cf (E++[(l,r,w)]) x y:=λk=>k.bv λe m=>Lb _ m
  have lr:cf (E++[(l,r,w)]) l r:=.uO .refl (Ld _ (Lo _))
  constructor
  ·intro e
   simp only[K x nx,K y n] at e
   by_cases Q:M.Y x=M.Y l
   ·by_cases V:M.Y y=M.Y l
    ·exact j ((C.ro x y nx n).mp (Q.trans V.symm))
    ·rw[if_pos Q,if_neg V] at e
     exact(j ((C.ro x l nx G).mp Q)).trans (lr.trans (j ((C.ro r y J n).mp e)))
   ·by_cases V:M.Y y=M.Y l
    ·rw[if_neg Q,if_pos V] at e
     exact(j ((C.ro x r nx J).mp e)).trans (lr.symm.trans (j ((C.ro l y G n).mp V.symm)))
    ·rw[if_neg Q,if_neg V] at e
     exact j ((C.ro x y nx n).mp e)
  ·intro k
   exact K4 (pJ k) (λk=>same nx n ((C.ro x y nx n).mpr k)) λas=>K4 as (λa1=>ay a1 λk1 k2=>(D nx ((C.ro x l nx G).mpr k1)).trans (s n ((C.ro r y J n).mpr k2).symm).symm) λa2=>ay a2 λk1 k2=>(s nx ((C.ro x r nx J).mpr k1)).trans (D n ((C.ro l y G n).mpr k2).symm).symm
 ·refine Z (K x nx) ?_;split
  ·exact I
  ·exact C.rn x nx
 ·refine Z (K x nx) ?_;split
  ·exact s I rg
  ·rename_i c
   exact keep (C.rn x nx) (C.rr x nx) c
 ·obtain⟨rt,ts⟩:=(kt t N).mp rt
  simp only[X.mem,i5,C.me _ I rg,C.me _ S R,C.me t N rt]
  constructor
  ·rintro(⟨rfl,⟨nx,e⟩ |⟨nx,e⟩⟩ |⟨_,nx,e⟩)
   ·exact⟨nx,s nx e⟩
   ·exact⟨nx,D nx e⟩
   ·exact⟨nx,keep nx e ts⟩
  ·rintro bk;refine ay bk λnx e=>?_
   rw[K x nx] at e
   by_cases c:M.Y x=M.Y l
   ·replace e:=(if_pos c)▸e
    exact .inl ⟨e.symm,.inr ⟨nx,c⟩⟩
   ·replace e:=(if_neg c)▸e
    by_cases d:t=M.Y r
    ·exact .inl ⟨d,.inl ⟨nx,e.trans d⟩⟩
    ·exact .inr ⟨d,nx,e⟩
 ·obtain⟨rt,ts⟩:=(kt t N).mp rt
  simp only[X.aM,i5,C.us _ I rg,C.us _ S R,C.us t N rt]
  constructor
  ·rintro(⟨rfl,⟨u,h,e⟩ |⟨u,h,e⟩⟩ |⟨_,u,h,e⟩)
   ·exact⟨u,h,s (aZ h).2 e⟩
   ·exact⟨u,h,D (aZ h).2 e⟩
   ·exact⟨u,h,keep (aZ h).2 e ts⟩
  ·rintro a3;refine aD a3 λu h e=>?_
   rw[K u (aZ h).2] at e
   by_cases c:M.Y u=M.Y l
   ·rw[if_pos c] at e
    exact .inl ⟨e.symm,.inr ⟨u,h,c⟩⟩
   ·rw[if_neg c] at e
    by_cases d:t=M.Y r
    ·exact .inl ⟨d,.inl ⟨u,h,e.trans d⟩⟩
    ·exact .inr ⟨d,u,h,e⟩
 ·obtain⟨rt,ts⟩:=(kt t N).mp rt
  rw[X.val] at v⊢
  have vk:M.val t≠0->num (M.val t)/\Ub.Y (M.val t)=t:=λv=>by
   obtain⟨H,h2⟩:=C.va t N rt v
   exact⟨H,keep (cd H) h2 ts⟩
  by_cases c:M.val (M.Y r)=0
  ·rw[if_pos c] at v⊢
   by_cases d:t=M.Y r
   ·clear vk ts rt N;clear rt;subst d
    rw[ai.M.aP] at v⊢
    exact ay (C.va _ S R v) λH h2=>⟨H,D (cd H) h2⟩
   ·rw[ai.M.aI _ _ d] at v⊢;exact vk v
  ·rw[if_neg c] at v⊢;exact vk v
 ·have v:=C.vb x nx
  simp only[K x (cd nx),X.val]
  by_cases c:M.val (M.Y r)=0
  ·refine Z (if_pos c) ?_
   by_cases d:M.Y x=M.Y l
   ·(refine Z (if_pos d) ?_;rw[ai.M.aP,<-d]);exact v
   ·refine Z (if_neg d) ?_
    by_cases f:M.Y x=M.Y r
    ·rw[f] at v;exact(v c).elim
    ·exact Z (ai.M.aI _ _ f) v
  ·refine Z (if_neg c) ?_
   by_cases d:M.Y x=M.Y l
   ·exact Z (if_pos d) c
   ·exact Z (if_neg d) v
 ·obtain⟨rt,ts⟩:=(kt t N).mp rt
  rw[X.bl,i5] at A
  rcases A with⟨_,h |h⟩ |⟨_,h⟩
  ·exact C.ap _ I rg p h
  ·exact C.ap _ S R p h
  ·exact C.ap t N rt p h
 ·rw[X.bl,i5] at A
  rcases A with⟨_,h |h⟩ |⟨_,h⟩
  ·exact C.an _ I p h
  ·exact C.an _ S p h
  ·exact C.an t N p h
 ·obtain⟨H,h2⟩:=C.ac m x y A
  refine ay (C.fn _ A) λnx n=>?_
  have key:∀{z},aj z->(x,y,m)∈M.bl (M.Y z)->(x,y,m)∈Ub.bl (Ub.Y z):=by
   intro z nz h
   simp only[X.bl,i5,K z nz]
   by_cases c:M.Y z=M.Y l
   ·refine Z (if_pos c) ?_;rw[c] at h;exact .inl ⟨rfl,.inr h⟩
   ·refine Z (if_neg c) ?_
    by_cases d:M.Y z=M.Y r
    ·rw[d] at h;exact .inl ⟨d,.inl h⟩
    ·exact .inr ⟨d,h⟩
  exact⟨key nx H,key n h2⟩
 ·refine Z X.b5.1 ?_
  rw[X.bK,i5] at hv
  rcases hv with⟨_,h |h⟩ |⟨_,h⟩
  ·exact C.wa _ I v h
  ·exact C.wa _ S v h
  ·exact C.wa t N v h
 ·replace A:=X.b5.1▸A;exact C.si t p A
 ·by_cases Q:m=[0,M.Y l]
  ·subst Q
   obtain⟨H,h2⟩:=X.t2 o eo
   refine aD (C.tb _ _ h2) λu i g=>(H ((C.us _ S R o).mpr ⟨u,i,?_⟩)).elim
   injection g with _ g;injection g with g;exact g.symm
  ·by_cases V:m=[0,M.Y r]
   ·clear Q;subst V
    rcases X.t3 o eo with h |h
    ·refine aD (C.tb _ _ h) λu i g=>?_
     have g:M.Y r=M.Y u:=by injection g with _ g;injection g
     exact⟨u,i,Z (s (aZ i).2 g.symm) rfl⟩
    ·obtain⟨u,i,g⟩:=(C.us _ S R o).mp h
     exact⟨u,i,Z (D (aZ i).2 g) rfl⟩
   ·replace eo:=(X.t1 m Q V)▸eo
    refine aD (C.tb _ _ eo) λu i bd=>?_;clear eo V;subst bd
    exact⟨u,i,Z (keep (aZ i).2 rfl λe=>Q (by rw[e])) rfl⟩
 ·have nu:=(aZ hu).2
  by_cases c:M.Y u=M.Y l
  ·exact aD (bs t ((C.us _ S R t).mpr ⟨u,hu,c⟩)) λo H h2=>⟨o,Z (D nu c) H,h2.imp id (Ld _)⟩
  ·refine aD (C.tq t u hu) λo H h2=>aD (C.tb _ _ H) λu' ho _=>⟨o,?_,?_⟩
   ·refine Z (keep nu rfl c) ?_
    by_cases d:M.Y u=M.Y r
    ·rw[d] at H⊢;exact X.t4 o H
    ·exact Z (X.t1 _ (λe=>c (by injection e with _ e;injection e)) (λe=>d (by injection e with _ e;injection e))) H
   ·rcases h2 with h2 |h2
    ·exact .inl (same (aZ ho).1 (aZ hu).1 h2)
    ·refine K4 (KZ.mp h2) (λh2=>?_) λh2=>.inr (Lb _ h2)
     clear hu ho H hn ht nb na X C;cases h2;exact .inl W.symm
 ·rcases K8.mp m with m |m
  ·exact fe (C.pn e (K1 _ m)) λH h2 h3 h4=>⟨H,h2,h3,λq=>cR (h4 q) λu v i g B=>⟨u,v,i,g,same (aZ i).2 (aZ g).2 B⟩⟩
  ·refine cR (bn e m) λt o bi H h2=>?_;clear m;clear m;subst bi
   refine aD ((C.us _ S R t).mp H) λu i g=>?_
   have key:∃v,tw o=U v/\Ub.Y v=M.Y r:=by
    refine K4 (X.t3 o h2) (λh=>?_) λh=>aD ((C.us _ S R o).mp h) λv B e4=>⟨v,B,D (aZ B).2 e4⟩
    ·refine aD (C.tb _ _ h) λv B e4=>?_
     have e4:M.Y r=M.Y v:=by injection e4 with _ e4;injection e4
     exact⟨v,B,s (aZ B).2 e4.symm⟩
   exact aD key λv B e4=>⟨(aZ i).1,(aZ B).1,λ_ q=>(nomatch q),λ_=>⟨u,v,i,B,(D (aZ i).2 g).trans e4.symm⟩⟩
 ·obtain⟨nx,n⟩:=C.fn _ hm
  rcases C.ti m x y hm with h |h
  ·exact .inl (same nx n h)
  ·refine K4 (KZ.mp h) (λh=>?_) λh=>.inr (Lb _ h)
   clear n nx hm hn ht nb na X C;cases h;exact .inl W
end
abbrev fR(F:List bm)(x y:Int):Prop:=∃m,zw F m x y
variable {N:Hs}
section
variable {Ub:Hs} {E:List cj} {P q:List (Int×Int×Option Int)} {a b l r top:Int} {w:Option Int} {L:List eN}
theorem oF{T:Int->Int->Int->Prop}(g:dT T E):∀{x y},(x,y,KT)∈E->∃u v,tw x=U u/\tw y=U v/\cf E u v:=by
 induction g with
 |nil=>intro x y m;cases m
 |je _ _ i=>
  intro x y m;rcases K8.mp m with m |m
  ·exact cR (i m) λu v a b c=>⟨u,v,a,b,c.bv λe m=>Lb _ m⟩
  ·cases KU.mp m
 |args _ d f c i=>
  intro x y m;rcases K8.mp m with m |m
  ·exact cR (i m) λu v a b c=>⟨u,v,a,b,c.bv λe m=>Lb _ m⟩
  ·cases KU.mp m
   exact⟨_,_,d,f,c.bv λe m=>Lb _ m⟩
theorem lj(fo:b7 M.up E)(c:cf E x y):oI M.up x y:=ai.M.pa fo (λ_ m=>m) c
theorem cN.pa(C:cN F M E P){x y:Int}(nx:aj x)(n:aj y)(e:M.Y x=M.Y y):oI M.up x y:=lj C.fo ((C.ro x y nx n).mp e)
theorem cN.u7(C:cN F M E P):hO M.up:=by have d:∀x p,M.up x=U p->(x,p.1,p.2)∈E\/(p.1,x,p.2)∈E:=λx p e=>C.fo.2.1 _ _ _ e;exact⟨C.fo.1,λx p e=>(d x p e).elim (λm=>C.en _ _ _ m) λm=>(C.en _ _ _ m).symm,λc p e=>K4 (d _ _ e) (λm=>cR (oF C.gr m) λu v a b k=>⟨u,v,a,b,lj C.fo k⟩) λm=>cR (oF C.gr m) λu v a b k=>⟨v,u,b,a,lj C.fo k.symm⟩⟩
theorem cN.Ed(C:cN F M E P):mh M:=⟨C.rn,C.an,C.si⟩
theorem cN.eg(C:cN F M E P){x y:Int}(nx:aj x)(n:aj y)(e:M.Y x=M.Y y):Cl (fR F) x y:=C.gr.eg ((C.ro x y nx n).mp e)
theorem cN.sC(C:cN F M E []){x y:Int}(c:Cl (fR F) x y):x=y\/(aj x/\aj y/\M.Y x=M.Y y):=by
 induction c with
 |je h=>
  obtain⟨m,h |h⟩:=h
  ·obtain⟨nx,n⟩:=C.fn _ h
   exact .inr ⟨nx,n,(C.ti _ _ _ h).resolve_right λh=>nomatch h⟩
  ·obtain⟨nx,n⟩:=C.fn _ h
   exact .inr ⟨n,nx,((C.ti _ _ _ h).resolve_right λh=>nomatch h).symm⟩
 |refl=>exact .inl rfl
 |symm _ i=>exact i.elim (λe=>.inl e.symm) λ⟨a,b,c⟩=>.inr ⟨b,a,c.symm⟩
 |trans _ _ g I=>
  rcases g with rfl |⟨a,b,c⟩
  ·exact I
  ·rcases I with rfl |⟨A,B,c'⟩
   ·exact .inr ⟨a,b,c⟩
   ·exact .inr ⟨a,B,c.trans c'⟩
 |@congr x y u v d f _ i=>
  refine aD (C.tq x u d) λo H j=>aD (C.tq y v f) λq l p=>?_;rw[(i.elim (λe=>Z e rfl) λk=>k.2.2:M.Y u=M.Y v),l] at H
  (replace H:=KP H;subst H)
  exact .inr ⟨(aZ d).1,(aZ f).1,(j.resolve_right λh=>nomatch h).symm.trans (p.resolve_right λh=>nomatch h)⟩
structure NC(F:List bm)(M:Hs):Prop where
 nv:M.Y 7≠M.Y 8
 np:∀m x y,tj F m x y->M.Y x≠M.Y y
def DW(F:List bm):Prop:=Cl (fR F) 7 8\/∃m x y,tj F m x y/\Cl (fR F) x y
theorem NC.u8(n:NC F M)(C:cN F M E []):¬DW F:=by
 rintro(h |⟨m,x,y,H,a⟩);·exact K4 (C.sC h) (λe=>absurd e (by decide)) λr=>cH r λ_ _ e=>n.nv e
 ·exact K4 (C.sC a) (λe=>n.np m x y H (Z e rfl)) λR=>cH R λ_ _ e=>n.np m x y H e
theorem NC.join(n:NC F M)(C:cN F M E P)(o:aj l)(s:aj r)(q:M.Y l≠M.Y r)(X:JF M Ub l r w L)(j:M.val (M.Y l)=0\/M.val (M.Y r)=0)(i:∀p∈Ub.bl (M.Y l),Ub.Y p.1≠Ub.Y p.2.1):NC F Ub:=by
 have k:=C.Y o X;have ui:∀{x y},aj x->aj y->M.Y x≠M.Y y->Ub.Y x=Ub.Y y->(M.Y x=M.Y l/\M.Y y=M.Y r)\/(M.Y x=M.Y r/\M.Y y=M.Y l):=by
  intro x y nx N n e;simp only[k x nx,k y N] at e;by_cases g:M.Y x=M.Y l
  ·by_cases d:M.Y y=M.Y l
   ·exact(n (g.trans d.symm)).elim
   ·rw[if_pos g,if_neg d] at e;exact .inl ⟨g,e.symm⟩
  ·by_cases d:M.Y y=M.Y l
   ·rw[if_neg g,if_pos d] at e;exact .inr ⟨e,d⟩
   ·rw[if_neg g,if_neg d] at e;exact(n e).elim
 have A:Ub.bl (M.Y l)=M.bl (M.Y l):=Z X.bl (ai.M.aI _ _ q);replace i:=A▸i;refine⟨λe=>?_,λm x y h e=>?_⟩
 ·refine K4 (ui (by decide) (by decide) n.nv e) (λR=>ay R λH f=>?_) λa=>ay a λH f=>?_
  ·have v:=C.vb 7 (.inl rfl);have V:=C.vb 8 (.inr rfl)
   rw[H] at v;rw[f] at V;exact j.elim v V
  ·have v:=C.vb 7 (.inl rfl);have V:=C.vb 8 (.inr rfl)
   rw[H] at v;rw[f] at V;exact j.elim V v
 ·refine ay (C.fn _ h) λnx N=>ay (C.ac m x y h) λa1 a2=>K4 (ui nx N (n.np m x y h) e) (λb=>ay b λH f=>?_) λc=>ay c λH f=>?_
  ·rw[H] at a1;exact i _ a1 e
  ·rw[f] at a2;exact i _ a2 e
theorem cN.cg(C:cN F M E P)(h:N.Y=M.Y)(H:N.mem=M.mem)(a:N.aM=M.aM)(b:N.val=M.val)(c:N.bl=M.bl)(d:N.bK=M.bK)(e:N.up=M.up)(f:N.bt=M.bt)(g:N.aC=M.aC):cN F N E P:=by induction M;induction N;dsimp only at h H a b c d e f g;subst h H a b c d e f g;exact⟨C.1,C.2,C.3,C.4,C.5,C.6,C.7,C.8,C.9,C.10,C.11,C.12,C.13,C.14,C.15,C.16,C.17,C.18,C.19,C.20,C.21,C.22,C.23,C.24⟩
def wH(F:List bm)(c:Int×Int×Int):Prop:=(c.2.2=0/\num c.1/\num c.2.1/\c.1≠c.2.1)\/tj F c.2.2 c.1 c.2.1\/tj F c.2.2 c.2.1 c.1
def Gf(F:List bm)(E:List cj)(p:Int×Int):Option (Int×Int×Int)->Prop
 |none=>cf E p.1 p.2
 |some c=>cf E p.1 c.1/\cf E p.2 c.2.1/\wH F c
def TO(F:List bm)(M:Hs)(E:List cj):Prop:=∀t c,M.a7 t=U c->∃p,M.aC t=U p/\Gf F E p c
theorem Gf.bv{a:List bm}{b:List cj}{c:Option (Int×Int×Int)}(d:∀f∈F,f∈a)(H:∀e∈E,e∈b)(h:Gf F E p c):Gf a b p c:=by
 induction c with
 |none=>exact cf.bv H h
 |some c=>exact cH h λg i j=>⟨g.bv H,i.bv H,K4 j (λh=>.inl h) λr=>K4 r (λh=>.inr (.inl (d _ h))) λh=>.inr (.inr (d _ h))⟩
structure ox(M:Hs)(E:List cj)(N:Hs)(e:List cj):Prop where
 bk:gG M N
 pre:∃E1,e=E++E1
 a7:∀t c,M.a7 t=U c->N.a7 t=U c
 aC:N.aC=M.aC
 am:N.am=M.am
 ce:N.ce=M.ce
 a4:∀t∈N.a4,t∈M.a4\/(M.a7 t=KT/\t∈fw/\(M.aC t).isSome=true)
theorem ox.refl:ox M E M E:=⟨.refl,⟨[],(Lk _).symm⟩,λ_ _ h=>h,rfl,rfl,rfl,λ_ h=>.inl h⟩
theorem ox.trans{m:Hs}{E1 E2:List cj}(a:ox M E m E1)(b:ox m E1 N E2):ox M E N E2:=by
 refine cY a.pre λx H=>cY b.pre λy d=>⟨a.bk.trans b.bk,⟨x++y,by simp only[d,H,Lj]⟩,λt c h=>b.a7 t c (a.a7 t c h),b.aC.trans a.aC,b.am.trans a.am,b.ce.trans a.ce,λt h=>K4 (b.a4 t h) (λh=>a.a4 t h) λr=>ay r λh k=>?_⟩
 ·refine .inr ⟨?_,k.1,hR a.aC k.2⟩
  induction e:M.a7 t with
  |none=>rfl
  |some c=>rw[a.a7 t c e] at h;exact al h.symm
structure dd(F:List bm)(M:Hs)(E:List cj)(P:List (Int×Int×Option Int)):Prop where
 C:cN F M E P
 nc:NC F M
 to:TO F M E
theorem dd.jT{t:Int}(f:dd F M E P)(T:lA M t N):dd F N E P/\ox M E N E/\N.aU=M.aU/\N.aw=M.aw/\N.a4.length<=M.a4.length+1/\N.ak.length<=M.ak.length+1/\N.Y=M.Y/\N.bK=M.bK:=by
 have key:∀{c p},M.a7 t=none->M.aC t=U p->Gf F E p c->dd F (dX M t c) E P/\ox M E (dX M t c) E/\(dX M t c).aU=M.aU/\(dX M t c).aw=M.aw/\(dX M t c).a4.length<=M.a4.length+1/\(dX M t c).ak.length<=M.ak.length+1/\(dX M t c).Y=M.Y/\(dX M t c).bK=M.bK:=by
  intro c p g a i;have b:gG M (dX M t c):=by
   obtain⟨l,r⟩:=p;refine⟨[.a7 t],rfl,.dZ ?_⟩;have j:aH (aH M.a7 t (U c)) t none=M.a7:=by simp only[ai.M.e8,<-g,ai.M.dn]
   have k:(dX M t c).qh (aH (dX M t c).a7 t none)=M.ov (dX M t c):=Hs.Co rfl rfl rfl rfl rfl rfl rfl rfl rfl j rfl rfl rfl rfl rfl rfl rfl;exact hR k (fy.a7 (M:=dX M t c) (t:=t) (c:=c) (ai.M.aP _ _ _))
  refine⟨⟨f.C.cg rfl rfl rfl rfl rfl rfl rfl rfl rfl,⟨f.nc.nv,f.nc.np⟩,λx d H=>?_⟩,⟨b,⟨[],(Lk _).symm⟩,λx d H=>?_,rfl,rfl,rfl,λx H=>?_⟩,rfl,rfl,K2 (bf _),K2 (bf _),rfl,rfl⟩
  ·have H:aH M.a7 t (U c) x=U d:=H
   by_cases e:x=t
   ·clear b g T;subst e;rw[ai.M.aP] at H;(replace H:=KP H;subst H)
    exact⟨p,a,i⟩
   ·replace H:=(ai.M.aI _ _ e)▸H;exact f.to x d H
  ·exact((Z (ai.M.aI _ _ λe=>by replace H:=g▸e▸H;exact al H) H):aH M.a7 t (U c) x=U d)
  ·refine K4 (K8.mp H) (λh=>.inl h) λh=>?_
   clear H;cases KU.mp h;exact .inr ⟨g,(f.C.si _ _ a).2.2,by refine Z a ?_;rfl⟩
 induction T with
 |vk=>exact⟨f,.refl,rfl,rfl,LN _,LN _,rfl,rfl⟩
 |@eq l r g a i=>exact cH (f.C.si _ _ a) λn R _=>key g a (c:=none) ((f.C.ro _ _ n R).mp i)
 |@ne l r c g a i v=>
  refine cH (f.C.si _ _ a) λn R _=>key g a (c:=U c) ?_;rcases v with⟨rfl,V,w⟩ |⟨y,z,m⟩
  ·exact ay (f.C.va _ (f.C.rn l n) (f.C.rr l n) V) λo j=>ay (f.C.va _ (f.C.rn r R) (f.C.rr r R) w) λq k=>⟨(f.C.ro _ _ n (cd o)).mp j.symm,(f.C.ro _ _ R (cd q)).mp k.symm,.inl ⟨rfl,o,q,λe=>i (by dsimp only at e;exact hR j (Z e (Z k rfl)))⟩⟩
  ·have s:tj F c.2.2 c.1 c.2.1\/tj F c.2.2 c.2.1 c.1:=m.imp (f.C.ap _ (f.C.rn l n) (f.C.rr l n) _) (f.C.ap _ (f.C.rn l n) (f.C.rr l n) _)
   have u:aj c.1/\aj c.2.1:=s.elim (λh=>f.C.fn _ h) λh=>(f.C.fn _ h).symm;exact⟨(f.C.ro _ _ n u.1).mp y.symm,(f.C.ro _ _ R u.2).mp z.symm,.inr s⟩
theorem dd.AQ{s:List Int}(T:iU M s N):dd F M E P->dd F N E P/\ox M E N E/\N.aU=M.aU/\N.aw=M.aw/\N.a4.length<=M.a4.length+s.length/\N.ak.length<=M.ak.length+s.length/\N.Y=M.Y/\N.bK=M.bK:=by
 induction T with
 |nil=>exact λf=>⟨f,.refl,rfl,rfl,K9 _,K9 _,rfl,rfl⟩
 |cons t _ i=>
  intro f;refine xS (f.jT t) λa x c q n b r w=>xS (i a) λd X C Q e g R W=>⟨d,x.trans X,C.trans c,Q.trans q,?_,?_,R.trans r,W.trans w⟩;·simp only[LK];exact bM (lN _ _ _ _) 0x711139813a113813719a rfl n e
  ·simp only[LK];exact bM (lN _ _ _ _) 0x711139813a113813719a rfl b g
end
structure rY(n:Nat)(M:Hs):Prop where
 tr:M.ak.length+20*cls M<=300+20*n
 nw:M.a4.length+20*cls M<=300
 qu:M.aw.length+4*cls M<=40
 yk:M.am.length<=1000
section
variable {Ub:Hs} {E:List cj} {P q:List (Int×Int×Option Int)} {a b l r top:Int} {w:Option Int} {L:List eN} {k:Nat}
theorem jn{a b:Nat}(h:a+b<=5000):a+b<=aN:=KQ h (by decide)
theorem kV(C:cN F M E ((a,b,w)::P))(or:(l=a/\r=b)\/(l=b/\r=a)):aj l/\aj r:=by
 refine cH (C.pn _ KX) λn N _=>?_;clear C;rcases or with⟨rfl,rfl⟩ |⟨rfl,rfl⟩
 ·exact⟨n,N⟩
 ·exact⟨N,n⟩
theorem cN.jf(C:cN F M E P)(n:aj l)(N:M.Y l≠M.Y r):JF M (b6 M l r w L top) l r w L:=by exact JF.of N λt m=>aD ((C.us _ (C.rn l n) (C.rr l n) t).mp m) λu h H=>⟨u,h,H,(C.me _ (C.rn l n) (C.rr l n) u).mpr ⟨(aZ h).2,H⟩⟩
structure GY(M:Hs)(s:Int)(F:List bm):Prop where
 m:(M.mem s).length<=9
 u:(M.aM s).length<=3
 a:(M.bl s).length<=2*F.length
 w:(M.bK s).length<=6
theorem cN.nJ(C:cN F M E P){x:Int}(nx:aj x):GY M (M.Y x) F:=
 ⟨KQ (lB (f:=λt=>(M.mem t).length) (C.rn x nx) (C.rr x nx)) C.b1,KQ (lB (f:=λt=>(M.aM t).length) (C.rn x nx) (C.rr x nx)) C.b2,KQ (lB (f:=λt=>(M.bl t).length) (C.rn x nx) (C.rr x nx)) C.b3,KQ (lB (f:=λt=>(M.bK t).length) (C.rn x nx) (C.rr x nx)) C.b4⟩
structure Ki(F:List bm)(M:Hs)(E:List cj)(k n:Nat)(l r:Int)(w:Option Int)(Ub:Hs):Prop where
 ext:ox M E Ub (E++[(l,r,w)])
 C:cN F Ub (E++[(l,r,w)]) (Ub.aw.drop (k+1))
 to:TO F Ub (E++[(l,r,w)])
 aU:Ub.aU=KT
 a4:Ub.a4=M.a4
 cl:cls Ub+1=cls M
 tr:Ub.ak.length<=M.ak.length+8
 qu:Ub.aw.length<=M.aw.length+3
 qg:M.aw.length<=Ub.aw.length
 wl:(Ub.bK (M.Y r)).length<=12
 as:Ub.bl (M.Y l)=M.bl (M.Y l)
 jl:∀x,aj x->Ub.Y x=if M.Y x=M.Y l then M.Y r else M.Y x
 I5:Ub.am=M.am
theorem dd.Iy(f:dd F M E ((a,b,w)::P))(j:M.aU=none)(e:M.Y l≠M.Y r)(or:(l=a/\r=b)\/(l=b/\r=a))(o:F.length<=20)(H:M.aw.drop k=(a,b,w)::P)(T:cn M.up l L top):Ki F M E k n l r w (b6 M l r w L top)/\JF M (b6 M l r w L top) l r w L:=by
 have C:=f.C;refine ay (kV C or) λN R=>?_;have X:JF M (b6 M l r w L top) l r w L:=C.jf N e;have S:=C.nJ N;have s:=C.nJ R;refine ll X.q λq Q u v y=>?_;have K:k<M.aw.length:=by refine K4 (OR k M.aw.length) (λh=>h) λh=>?_;replace H:=(MQ h)▸H;cases H
 have z:M.aw.drop (k+1)=P:=by refine hR Sm (Z H ?_);rfl
 have A:(b6 M l r w L top).aw.drop (k+1)=P++q:=by exact Z Q (Z (List.drop_append_of_le_length K) (Z z rfl))
 refine uV X.b5 λd g x3 B i x6 x7=>⟨⟨⟨(.b6 C.u7 T ⟨E,C.fo⟩ C.rn N R e (λx m=>(C.me _ (C.rn l N) (C.rr l N) x).mp m) (KQ s.m (by decide)) (KQ s.u (by decide)) (KQ s.a (KQ (NG 2 o) (by decide))) (KQ s.w (by decide)):gG M (b6 M l r w L top)),⟨_,rfl⟩,λt c h=>by refine Z g ?_;exact h,d,i,x7,λt h=>.inl (hR x3 h)⟩,by refine Z A ?_;exact(C.join e or T X v y:cN F (b6 M l r w L top) (E++[(l,r,w)]) (P++q)),λt c h=>?_,B.trans j,x3,Bg (C.rn l N) (C.rr l N) (C.D0 N R e X),?_,?_,?_,?_,?_,C.Y N X,i⟩,X⟩
 ·replace h:=g▸h
  exact aD (f.to t c h) λp D G=>⟨p,by refine Z d ?_;exact D,G.bv (λ_ m=>m) λ_ m=>Lb _ m⟩
 ·have:=X.tr
  have:=S.u;lia
 ·refine Z Q (Z KW ?_)
  have:=S.u;exact bM (io _ _ _) 0x1871337138913933 rfl u this
 ·(refine Z Q (Z KW ?_));exact Lr _ _
 ·refine Z X.bK (Z fU (Z (if_pos rfl) ?_))
  have:=S.w;have:=s.w;lia
 ·exact Z X.bl (ai.M.aI _ _ e)
theorem h5(M:Hs):cls M<=9:=by
 have:∀l:List Int,sm (λt=>if M.Y t=t then 1 else 0) l<=l.length:=by
  intro l;induction l with
  |nil=>exact K9 _
  |cons t l i=>refine(?_ :(if M.Y t=t then 1 else 0)+sm _ l<=l.length+1);split<;>lia
 exact this ar
theorem dd.JP(f:dd F M E ((a,b,w)::P))(j:M.aU=none)(i:M.Y l≠M.Y r)(or:(l=a/\r=b)\/(l=b/\r=a))(q:F.length<=20)(v:n<=100)(Q:M.aw.drop k=(a,b,w)::P)(B:rY n M):lh M l r w:=by
 have C:=f.C;refine ay (kV C or) λN R=>?_;have s:=C.nJ N;have S:=C.nJ R;have x:=B.tr;have y:=B.nw;have z:=B.qu;refine⟨C.u7,N,R,i,C.rn,λt m=>((C.me _ (C.rn l N) (C.rr l N) t).mp m).1,λt m=>aD ((C.us _ (C.rn l N) (C.rr l N) t).mp m) λu h _=>⟨u,h⟩,λm o e=>aD (C.tb m o e) λu h _=>(aZ h).1,jn (bM (io _ _ _) 0x1644701388514486441312914471281440012c5 rfl v x),jn (bM (gF _ _) 0x1644701388513128437284 rfl z),?_,?_,?_,?_,λL top T=>?_⟩;·have:=s.m;have:=S.m;lia
 ·have:=s.u;have:=S.u;lia
 ·have:=s.a;have:=S.a;lia
 ·have:=s.w;have:=S.w;lia
 ·refine ay (f.Iy (n:=n) j i or q Q T) λD X=>?_
  have c:=D.C;refine⟨c.u7,c.Ed,λp H e=>?_,λV A=>?_,c.wa _ (C.rn r R),?_,?_,Z D.I5 (KQ B.yk (by decide))⟩
  ·replace H:=D.as▸H
   exact ay (C.an _ (C.rn l N) p H) λd g=>c.pa d g e
  ·refine ay (C.va _ (C.rn l N) (C.rr l N) V) λd G=>ay (C.va _ (C.rn r R) (C.rr r R) A) λg I=>?_
   have e:(b6 M l r w L top).Y (M.val (M.Y l))=(b6 M l r w L top).Y (M.val (M.Y r)):=by exact Z (D.jl _ (cd d)) (Z (D.jl _ (cd g)) (Z G (Z I (Z (if_pos rfl) (Z (if_neg i.symm) rfl)))))
   exact⟨cd d,cd g,e,c.pa (cd d) (cd g) e⟩
  ·refine Z D.a4 ?_
   have:=D.wl;exact jn (bM (io _ _ _) 0x1870138851312914470012c5138c3 rfl y this)
  ·have:=D.wl
   have:=D.tr;exact jn (by lia)
theorem dd.rJ(f:dd F M E ((a,b,w)::P))(y:M.aU=none)(i:M.Y l≠M.Y r)(or:(l=a/\r=b)\/(l=b/\r=a))(z:F.length<=20)(Q:M.aw.drop k=(a,b,w)::P)(B:rY n M)(T:iW M l r w N):
  ∃A,ox M E N A/\rY n N/\cls N+1=cls M/\N.aw.length<=M.aw.length+3/\M.aw.length<=N.aw.length/\((N.aU=none/\dd F N A (N.aw.drop (k+1)))\/(N.aU≠none/\N.j2=N.am.length/\DW F)):=by
 have C:=f.C;refine ay (kV C or) λj s=>?_;have K:=B.tr;have S:=B.nw;have G:=B.qu;induction T with
 |@jT L top N t V H T=>
  obtain⟨D,X⟩:=f.Iy (n:=n) y i or z Q t;refine xS ((dd.mk D.C (f.nc.join C j s i X V H) D.to).AQ T) λW I c2 q c t2 r2 w2=>?_;have d1:=D.cl;have J:=D.tr;have m:=D.qu;have d4:=D.wl;have o:cls N=cls (b6 M l r w L top):=by delta cls oD;exact Z r2 rfl
  replace c:=D.a4▸c;refine⟨_,D.ext.trans I,⟨?_,?_,Z o (Z q (bM (lN _ _ _ _) 0x1284372841312a439284431138a1371339 rfl G (K2 d1) m)),Z I.am (Z D.I5 B.yk)⟩,Z o d1,Z q m,Z q D.qg,.inl ⟨c2.trans D.aU,Z q W⟩⟩;·refine Z o ?_;lia
  ·refine Z o ?_;lia
 |@aU L top x t h=>
  obtain⟨D,X⟩:=f.Iy (n:=n) y i or z Q t;have d1:=D.cl;have J:=D.tr;have m:=D.qu;refine⟨_,D.ext.trans (⟨.aU,⟨[],(Lk _).symm⟩,λ_ _ h=>h,rfl,rfl,rfl,λ_ h=>.inl h⟩:ox (b6 M l r w L top) (E++[(l,r,w)]) ((b6 M l r w L top).d8 (U x) (b6 M l r w L top).am.length) (E++[(l,r,w)])),⟨((bM (JN _ _ _ _ _) 0x12814471291440012c51312b144a1291440012c51441138b137183a rfl K (K2 d1) J):(b6 M l r w L top).ak.length+20*cls (b6 M l r w L top)<=_),?_,((bM (lN _ _ _ _) 0x1284372841312a439284431138a1371339 rfl G (K2 d1) m):(b6 M l r w L top).aw.length+4*cls (b6 M l r w L top)<=_),?_⟩,d1,m,D.qg,.inr ⟨λe=>(nomatch e),rfl,?_⟩⟩;·refine((Z D.a4 ?_):(b6 M l r w L top).a4.length+20*cls (b6 M l r w L top)<=_);exact bM (io _ _ _) 0x12814470012c51312914470012c514411389 rfl S (K2 d1)
  ·refine((Z D.I5 ?_):(b6 M l r w L top).am.length<=_);exact B.yk
  ·refine K4 h (λR=>ay R λv1 v2=>?_) λg=>aD g λp H e=>?_
   ·refine ay (C.va _ (C.rn l j) (C.rr l j) v1) λd u=>?_
    obtain⟨c,v⟩:=C.va _ (C.rn r s) (C.rr r s) v2;have e:(b6 M l r w L top).Y (M.val (M.Y l))=(b6 M l r w L top).Y (M.val (M.Y r)):=by exact Z (D.jl _ (cd d)) (Z (D.jl _ (cd c)) (Z u (Z v (Z (if_pos rfl) (Z (if_neg i.symm) rfl)))))
    have k:=D.C.eg (cd d) (cd c) e;rcases d with d |d<;>refine K4 c (λc=>?_) λc=>?_
    ·exact(i (hR u (hR v (Z d (Z c rfl))))).elim
    ·replace k:=c▸d▸k;exact .inl k
    ·replace k:=c▸d▸k;exact .inl k.symm
    ·exact(i (hR u (hR v (Z d (Z c rfl))))).elim
   ·replace H:=D.as▸H
    obtain⟨d,c⟩:=C.an _ (C.rn l j) p H;exact .inr ⟨_,_,_,C.ap _ (C.rn l j) (C.rr l j) p H,D.C.eg d c e⟩
end
def CI(F:List bm)(n:Nat)(M0:Hs)(E0:List cj)(m k:Nat)(N:Hs):Prop:=∃E,ox M0 E0 N E/\rY n N/\k<=41/\((N.aU=KT/\dd F N E (N.aw.drop k)/\k<=N.aw.length/\4*cls N+N.aw.length=m+k)\/(N.aU≠KT/\N.j2=N.am.length/\DW F))
def J4(F:List bm)(n:Nat)(M0:Hs)(E0:List cj)(N:Hs):Prop:=∃E,ox M0 E0 N E/\rY n N/\N.aw=[]/\((N.aU=KT/\dd F N E [])\/(N.aU≠KT/\N.j2=N.am.length/\DW F))
theorem mR{a:Type}{l:List a}{k:Nat}{e:a}(h:l[k]? =U e):l.drop k=e::l.drop (k+1)/\k<l.length:=by obtain⟨lt,rfl⟩:=LU.mp h;exact⟨ME lt,lt⟩
section
variable {M0 Ub:Hs} {E E0:List cj} {P q:List (Int×Int×Option Int)} {a b l r top m:Int} {w:Option Int} {L:List eN} {k:Nat}
theorem cN.skip(C:cN F M E ((a,b,w)::P))(e:M.Y a=M.Y b):cN F M E P:=by
 refine⟨C.1,C.2,C.3,C.4,C.5,C.6,C.7,C.8,C.9,C.10,C.11,C.12,C.13,C.14,C.15,C.16,C.17,λt u h=>?_,λe m=>C.pn e (K1 _ m),λm x y h=>?_,C.21,C.22,C.23,C.24⟩
 ·refine aD (C.tq t u h) λo H h2=>⟨o,H,?_⟩
  rcases h2 with h2 |h2
  ·exact .inl h2
  ·rcases KZ.mp h2 with h2 |h2
   ·clear h H C;cases h2;exact .inl e.symm
   ·exact .inr h2
 ·rcases C.ti m x y h with h |h
  ·exact .inl h
  ·rcases KZ.mp h with h |h
   ·clear C;cases h;exact .inl e
   ·exact .inr h
theorem Ii(h:aj a)(e:M.Y a=a):0<cls M:=Li Nat.zero_lt_one (lB (f:=λ_=>1) h e)
theorem B8(p:F.length<=20)(u:n<=100):mP (CI F n M0 E0):=by
 refine⟨λm k N i=>?_,λm k N l r w i c q=>?_,λm k N i c=>?_,λm k N i c t T=>?_,λm k N l r w i c q d=>?_,λm k N l r w i c q d=>?_,λm k N l r w M i c q d Ub=>?_⟩
 ·refine ll i λE x B K _=>?_
  have:=B.qu;exact⟨by lia,by lia⟩
 ·obtain⟨E,x,B,K,h |h⟩:=i
  ·refine cH h λ_ f _=>?_
   rw[(mR q).1] at f;exact cH (f.C.pn _ KX) λv y _=>⟨v,y⟩
  ·exact(h.1 c).elim
 ·obtain⟨E,x,B,K,h |h⟩:=i
  ·exact h.2.1.C.rn
  ·exact(h.1 c).elim
 ·obtain⟨E,x,B,K,h |h⟩:=i
  ·exact KQ (h.2.1.C.nJ T).m (by decide)
  ·exact(h.1 c).elim
 ·obtain⟨E,x,B,K,h |h⟩:=i
  ·refine fe h λ_ f z A=>?_
   obtain⟨H,s⟩:=mR q;replace f:=H▸f;have b:=B.qu;exact cH (f.C.pn _ KX) λv y _=>⟨m-1,by omega,E,x,B,by lia,.inl ⟨c,⟨f.C.skip d,f.nc,f.to⟩,s,by lia⟩⟩
  ·exact(h.1 c).elim
 ·obtain⟨E,x,B,K,h |h⟩:=i
  ·refine fe h λ_ f z A=>?_
   obtain⟨H,s⟩:=mR q;have a:=f;simp only[H] at a;exact⟨λ_=>a.JP (k:=k) c d (.inl ⟨rfl,rfl⟩) p u H B,λ_=>a.JP (k:=k) c (λe=>d e.symm) (.inr ⟨rfl,rfl⟩) p u H B⟩
  ·exact(h.1 c).elim
 ·obtain⟨E,x,B,K,h |h⟩:=i
  ·refine fe h λ_ f z A=>?_
   obtain⟨H,s⟩:=mR q;have a:=f;simp only[H] at a;have b:=B.qu;have key:∃g,ox N E M g/\rY n M/\cls M+1=cls N/\M.aw.length<=N.aw.length+3/\N.aw.length<=M.aw.length/\((M.aU=KT/\dd F M g (M.aw.drop (k+1)))\/(M.aU≠KT/\M.j2=M.am.length/\DW F)):=by exact K4 Ub (λR=>ay R λ_ Ub=>a.rJ c d (.inl ⟨rfl,rfl⟩) p H B Ub) λj=>ay j λ_ Ub=>a.rJ c (λe=>d e.symm) (.inr ⟨rfl,rfl⟩) p H B Ub
   exact Hh key λg X C c' Q g' h'=>K4 h' (λo=>ay o λD G=>⟨4*cls M+M.aw.length-(k+1),by omega,g,x.trans X,C,by omega,.inl ⟨D,G,KQ s g',by lia⟩⟩) λh'=>⟨0,by lia,g,x.trans X,C,by omega,.inr h'⟩
  ·exact(h.1 c).elim
theorem dd.Ej(f:dd F M E [])(n:aj a)(N:aj b):dd (F++[⟨true,a,b,m⟩]) M E [(a,b,U m)]:=by
 have C:=f.C;have sub:∀f∈F,f∈F++[⟨true,a,b,m⟩]:=λf h=>Lb _ h;have P:∀{d x y},tj (F++[⟨true,a,b,m⟩]) d x y->tj F d x y:=λh=>(K8.mp h).resolve_right λh=>by cases KU.mp h
 refine⟨⟨C.1,C.2,C.gr.bv λm x y h=>h.imp (sub _) (sub _),C.4,C.5,C.6,C.7,C.8,C.9,C.10,λt T r p h=>sub _ (C.ap t T r p h),C.12,λm x y h=>C.ac m x y (P h),λg h=>?_,C.15,C.16,C.17,λt u h=>aD (C.tq t u h) λo H i=>⟨o,H,.inl (i.resolve_right λh=>nomatch h)⟩,λe h=>?_,λd x y h=>?_,C.21,C.22,Z KW (KQ C.b3 (NG 2 (Lr _ _))),C.24⟩,⟨f.nc.nv,λm x y h=>f.nc.np m x y (P h)⟩,λt c h=>aD (f.to t c h) λp H i=>⟨p,H,i.bv sub λ_ h=>h⟩⟩
 ·rcases K8.mp h with h |h
  ·exact C.fn g h
  ·cases KU.mp h;exact⟨n,N⟩
 ·cases KU.mp h
  exact⟨n,N,λd e=>by(replace e:=KP e;subst e);exact .inl (Ld _ (Lo _)),λe=>(nomatch e)⟩
 ·rcases K8.mp h with h |h
  ·exact .inl ((C.ti d x y h).resolve_right λh=>nomatch h)
  ·cases KU.mp h;exact .inr (Lo _)
theorem II{a:Type}{f:Int->List a}{g h:Int}{p:a}(n:g≠h)(t:Int):aH (aH f g (f g++[p])) h (f h++[p]) t=if t=g\/t=h then f t++[p] else f t:=by
 by_cases c:t=h;·clear n;subst c;(rw[ai.M.aP];exact Z (if_pos (.inr rfl)) rfl)
 ·rw[ai.M.aI _ _ c]
  by_cases C:t=g;·clear n;subst C;(rw[ai.M.aP];exact Z (if_pos (.inl rfl)) rfl)
  ·rw[ai.M.aI _ _ C,if_neg λh=>h.elim C c]
theorem dd.Ea(f:dd F M E [])(n:aj a)(N:aj b)(l:M.Y a≠M.Y b):dd (F++[⟨false,a,b,m⟩]) (hm M a b m) E []:=by
 have C:=f.C;have sub:∀f∈F,f∈F++[⟨false,a,b,m⟩]:=λf h=>Lb _ h;have P:∀{i x y},tj (F++[⟨false,a,b,m⟩]) i x y->tj F i x y\/(x=a/\y=b/\i=m):=λh=>(K8.mp h).imp id λh=>by cases KU.mp h;exact⟨rfl,rfl,rfl⟩
 have A:∀t,(hm M a b m).bl t=if t=M.Y a\/t=M.Y b then M.bl t++[(a,b,m)] else M.bl t:=λt=>II l t
 have o:∀{t p},p∈(hm M a b m).bl t->p∈M.bl t\/p=(a,b,m):=λ{t p} h=>by
  rw[A] at h;split at h;·exact(K8.mp h).imp id KU.mp
  ·exact .inl h
 have q:∀{t p},p∈M.bl t->p∈(hm M a b m).bl t:=λ{t p} h=>by
  rw[A];split;·exact Lb _ h
  ·exact h
 refine⟨⟨C.1,C.2,C.gr.bv λm x y h=>h.imp (sub _) (sub _),C.4,C.5,C.6,C.7,C.8,C.9,C.10,λt T r p h=>?_,λt T p h=>?_,λi x y h=>?_,λg h=>?_,C.15,C.16,C.17,C.18,λ_ h=>(nomatch h),λi x y h=>?_,C.21,C.22,?_,C.24⟩,⟨f.nc.nv,λi x y h=>?_⟩,λt c h=>aD (f.to t c h) λp H s=>⟨p,H,s.bv sub λ_ h=>h⟩⟩
 ·rcases o h with h |rfl
  ·exact sub _ (C.ap t T r p h)
  ·exact(Ld _ (Lo _):tj (F++[⟨false,a,b,m⟩]) m a b)
 ·rcases o h with h |rfl
  ·exact C.an t T p h
  ·exact⟨n,N⟩
 ·clear n l N o sub;rcases P h with h |⟨rfl,rfl,rfl⟩
  ·obtain⟨H,s⟩:=C.ac i x y h
   exact⟨q H,q s⟩
  ·refine(?_ :_∈(hm M x y i).bl (M.Y x)/\_∈(hm M x y i).bl (M.Y y))
   (refine Z (A _) (Z (A _) (Z (if_pos (.inl rfl)) (Z (if_pos (.inr rfl)) ?_))))
   exact⟨Ld _ (Lo _),Ld _ (Lo _)⟩
 ·rcases K8.mp h with h |h
  ·exact C.fn g h
  ·cases KU.mp h;exact⟨n,N⟩
 ·rcases K8.mp h with h |h
  ·exact C.ti i x y h
  ·cases KU.mp h
 ·have X:=oL (h:=λt=>if M.Y t=t then(M.bl t).length else 0) (g:=M.Y a) (d:=1) dx
  have u:=oL (h:=λt=>if t=M.Y a then(if M.Y t=t then(M.bl t).length else 0)+1 else(if M.Y t=t then(M.bl t).length else 0)) (g:=M.Y b) (d:=1) dx;replace X:=(if_pos (aR (C.rn a n)))▸X;rw[if_pos (aR (C.rn b N)),X] at u;have e:oD (hm M a b m) (λt=>((hm M a b m).bl t).length)=oD M (λt=>(M.bl t).length)+1+1:=by
   refine Rp (iV λt v=>((Z (A _) ?_):(if M.Y t=t then((hm M a b m).bl t).length else 0)=_)) u;by_cases j:t=M.Y b
   ·have r:M.Y t=t:=Z j (C.rr b N)
    (refine Z (if_pos r) (Z (if_pos (.inr j)) (Z (if_pos j) (Z (if_neg λh=>l (h.symm.trans j)) (Z (if_pos r) (Z KW ?_))))));rfl
   ·rw[if_neg j]
    by_cases k:t=M.Y a
    ·have r:M.Y t=t:=Z k (C.rr a n)
     refine Z (if_pos r) (Z (if_pos (.inl k)) (Z (if_pos k) (Z (if_pos r) (Z KW ?_))));rfl
    ·exact Z (if_neg (c:=t=M.Y a\/t=M.Y b) λh=>h.elim k j) (Z (if_neg k) rfl)
  refine Z e (Z KW ?_);have:=C.b3;refine(?_ :_<=2*(F.length+1));lia
 ·clear n N q o A sub;rcases P h with h |⟨rfl,rfl,rfl⟩
  ·exact f.nc.np i x y h
  ·exact l
end
section
variable {E:List cj} {a b m:Int} {j:Nat}
theorem y8(R:AR h A)(H:ah A M)(f:dd F M E [])(u:F.length<20)(v:n<=100)(B:rY n M)(C:M.aU=KT)(w:M.aw=[])(s:aj a)(t:aj b)
  (q:∀h' l N,AR h' l->ah l N->Fr pL A l->J4 (F++[⟨true,a,b,m⟩]) n M E N->Q .none h'):cw (j+7) "merge" [Me,.int a,.int b,.int m] Q h:=by
 have G:=h5 M;have g:=f.Ej (m:=m) s t;refine G8 (B8 (F:=F++[⟨true,a,b,m⟩]) (M0:=M) (E0:=E) (n:=n) (Z KW u) v) R H s t w (m:=4*cls M+1) ⟨E,(⟨.aw,⟨[],(Lk _).symm⟩,λ_ _ h=>h,rfl,rfl,rfl,λ_ h=>.inl h⟩:ox M E (M.cV [(a,b,U m)]) E),⟨B.tr,B.nw,?_,B.yk⟩,Lf _,.inl ⟨C,(⟨g.C.cg rfl rfl rfl rfl rfl rfl rfl rfl rfl,⟨g.nc.nv,g.nc.np⟩,g.to⟩:dd (F++[⟨true,a,b,m⟩]) (M.cV [(a,b,U m)]) E [(a,b,U m)]),Lf _,rfl⟩⟩ λo I J k N y z D i d=>?_;·refine(?_ :1+4*cls M<=40);lia
 refine ll i λE1 x p K h=>q _ _ _ y z D ⟨E1,⟨x.bk.trans .aw,x.pre,x.a7,x.aC,x.am,x.ce,x.a4⟩,⟨p.tr,p.nw,?_,p.yk⟩,rfl,?_⟩
 ·refine(?_ :0+4*cls N<=40)
  have:=h5 N;lia
 ·refine K4 h (λr=>fe r λo c L P=>?_) λh=>.inr h
  ·simp only[MQ (d.resolve_left λe=>e o)] at c
   exact .inl ⟨o,c.C.cg rfl rfl rfl rfl rfl rfl rfl rfl rfl,⟨c.nc.nv,c.nc.np⟩,c.to⟩
theorem sI(R:AR h A)(H:ah A M)(f:dd F M E [])(W:F.length<20)(hn:n<100)(B:rY n M)(k:M.aU=KT)(i:M.aw=[])(hw:M.a4.length<=100)(d:aj a)(g:aj b)
  (q:∀h' o N,AR h' o->ah o N->Fr pL A o->J4 (F++[⟨false,a,b,m⟩]) (n+1) M E N->Q .none h'):cw (j+5) "separate" [Me,.int a,.int b,.int m] Q h:=by
 have C:=f.C;have B0:=h5 M;have b1:=B.tr;have p:=B.yk;have b4:=B.qu;by_cases c:M.Y a=M.Y b
 ·refine nH R H C.u7 d g i k c (C.pa d g c) (KQ p (by decide)) λG I l r s t=>q _ _ _ r s t ⟨E,⟨.aU,⟨[],(Lk _).symm⟩,λ_ _ h=>h,rfl,rfl,rfl,λ_ h=>.inl h⟩,⟨?_,B.nw,b4,p⟩,i,.inr ⟨λe=>(nomatch e),rfl,?_⟩⟩
  ·refine(?_ :M.ak.length+20*cls M<=_);lia
  ·refine .inr ⟨m,a,b,Ld _ (Lo _),(C.eg d g c).bv λx y ⟨J,h⟩=>⟨J,h.imp (Lb _) (Lb _)⟩⟩
 ·have S:=C.nJ d
  have v:=S.a;have w:=(C.nJ g).a;have u3:=S.w;refine yP R H C.Ed d g i k c (K6 v (Li ((by omega:2*F.length<1000)) (by decide))) (K6 w (Li ((by omega:2*F.length<1000)) (by decide))) (jn (by lia)) (jn (by lia)) (C.wa _ (C.rn a d)) λG I N r s t T=>xS ((f.Ea (m:=m) d g c).AQ T) λK X L z D t2 P w2=>?_;have u:cls N=cls M:=by delta cls oD;refine Z P ?_;rfl
  have t3:(hm M a b m).ak.length=M.ak.length+1:=bf _;have V:(hm M a b m).a4=M.a4:=rfl;replace D:=V▸D;refine q _ _ _ r s t ⟨E,(⟨.J7 (C.rn a d) (C.rn b g) c (K6 v (Li ((by omega:2*F.length<1000)) (by decide))) (K6 w (Li ((by omega:2*F.length<1000)) (by decide))),⟨[],(Lk _).symm⟩,λ_ _ h=>h,rfl,rfl,rfl,λ_ h=>.inl h⟩:ox M E (hm M a b m) E).trans X,⟨?_,?_,Z u (Z z (b4)),Z X.am p⟩,z.trans i,.inl ⟨L.trans k,K⟩⟩;·refine Z u ?_;lia
  ·refine Z u ?_;lia
end
open ai.M (ou)
noncomputable def keep(F:List bm)(l:List Int):List bm:=F.filter λf=>decide (f.m∈l)
theorem eM{F:List bm}{f:bm}:f∈keep F l↔f∈F/\f.m∈l:=by unfold keep;simp only[MM,decide_eq_true_iff]
def GP(F:List bm)(x y:Int):Prop:=∃p:Int×Int,(p=(7,8)\/∃m,tj F m p.1 p.2)/\((Cl (fR F) x p.1/\Cl (fR F) y p.2)\/(Cl (fR F) x p.2/\Cl (fR F) y p.1))
structure fZ(F:List bm)(am l:List Int)(x y t:Int):Prop where
 s:l.Pairwise (·<·)
 k:∀r∈l,r∈am
 n:l.length<=19
 e:t=1->Cl (fR (keep F l)) x y
 a:t≠1->GP (keep F l) x y/\¬Cl (fR (keep F l)) x y
structure lT(F:List bm)(E:List cj)(x y:Int)(am:List Int):Prop where
 ex:∃E0 f E1 a,E=E0++E1/\F=f++a/\am=f.map (·.m)/\dT (zw f) E0/\cf E0 x y
structure oN(F:List bm)(M:Hs)(E:List cj)(t T:Int)(am:List Int):Prop where
 ex:∃E0 f E1 a c p,E=E0++E1/\F=f++a/\am=f.map (·.m)/\dT (zw f) E0/\M.a7 t=U c/\M.aC t=U p/\T=tr c/\Gf f E0 p c
section
variable {F0 F1:List bm} {E E0 E1:List cj} {x y r:Int} {l Uu:List Int}
theorem jb{T:Int->Int->Int->Prop}(g:dT T E){x y m}:(x,y,U m)∈E->T m x y:=by
 induction g with
 |nil=>intro h;cases h
 |je _ t i=>intro h;refine K4 (K8.mp h) (λh=>i h) λh=>?_;cases KU.mp h;exact t
 |args _ _ _ _ i=>intro h;refine K4 (K8.mp h) (λh=>i h) λh=>?_;cases KU.mp h
theorem tD(h:zw F m x y\/zw F m y x):∃f∈F,f.m=m:=by rcases h with(h |h) |(h |h)<;>exact⟨_,h,rfl⟩
theorem nj(fo:b7 M.up E)(g:dT (zw F0) E0)(s:∀e∈E0,e∈E)(c:cf E0 x y)(o:d5 M.up x y l):∀r∈l,∃f∈F0,f.m=r:=by refine ay o λ_ R=>ll R λX _ _ h H=>?_;intro r i;refine ay ((H r).mp i) λ_ a=>eB a λc' p j e=>eB (h _ (ai.M.vA fo g s) (λd k=>ai.M.kq fo s c k) c' j) λP w b m=>?_;replace b:=e▸b;(cases KP b);exact tD (m.imp (jb g) (jb g))
theorem ru(C:cN F M E [])(hz:∀f∈F,f.m≠0)(c:cf E x y)(o:d5 M.up x y l):Cl (fR (keep F l)) x y:=by refine ay o λ_ r=>ll r λX H i _ j=>(ai.M.FT C.fo C.gr (X:=X) (R:=λm=>m∈l) H (λd p m n e=>(j m).mpr ⟨aD (tD ((C.fo.2.1 _ _ _ e).imp (jb C.gr) (jb C.gr):zw F m d p\/zw F m p d)) λf q g=>?_,d,p,n,e⟩) c i).bv λa b ⟨m,k,K⟩=>⟨m,K.imp (λh=>eM.mpr ⟨h,k⟩) λh=>eM.mpr ⟨h,k⟩⟩;clear e;subst g;exact hz f q
theorem f9{L:List Int}(h:∀r∈l,r∈L)(c:Cl (fR (keep F l)) a b):Cl (fR (keep F L)) a b:=by have s:∀f∈keep F l,f∈keep F L:=λf m=>eM.mpr ⟨(eM.mp m).1,h _ (eM.mp m).2⟩;exact c.bv λx y ⟨m,k⟩=>⟨m,k.imp (s _) (s _)⟩
theorem n8(c:Cl (fR (keep F l)) a b):Cl (fR F) a b:=by exact c.bv λx y ⟨m,k⟩=>⟨m,k.imp (λh=>(eM.mp h).1) λh=>(eM.mp h).1⟩
theorem yZ(C:cN F M E [])(hz:∀f∈F,f.m≠0)(h:lT F E x y Uu)(o:d5 M.up x y l)(L:l.length<=19):fZ F Uu l x y 1:=by refine B2 h.ex λE0 F0 E1 F1 a b d g c=>?_;subst a;subst b;clear h;subst d;refine⟨o.1,λr H=>aD (nj C.fo g (λe m=>Lb _ m) c o r H) λf j i=>?_,L,λ_=>ru C hz (c.bv λe m=>Lb _ m) o,λe=>(e rfl).elim⟩;clear H;subst i;exact LG.mpr ⟨f,j,rfl⟩
theorem kZ:r∈gq a b↔r∈a\/r∈b:=by unfold gq;simp only[hB,K8,MM,decide_eq_true_iff];exact⟨λh=>h.imp id λh=>h.1,λh=>(Decidable.em (r∈a)).elim .inl λn=>.inr ⟨h.resolve_left n,n⟩⟩
theorem kM(h:l.Pairwise (·<·)):l.Nodup:=h.imp λh e=>by subst e;exact S3 _ h
theorem Bs{a b:List Int}(h:a.Pairwise (·<·))(H:b.Pairwise (·<·)):(gq a b).Pairwise (·<·):=by refine mT (Mj.mpr ⟨kM h,(kM H).filter _,λx X y c e=>?_⟩);subst e;exact of_decide_eq_true (MM.mp c).2 X
set_option tactic.hygienic true in
theorem jp:x∈eA l r↔x∈l\/(r≠0/\x=r):=by
 unfold eA
 split
 ·rename_i h
  exact⟨.inl,λk=>k.elim id λ⟨n,e⟩=>Z e (h.resolve_left n)⟩
 ·rename_i h
  simp only[not_or] at h
  simp only[hB,K8,KU]
  exact⟨λk=>k.imp id λe=>⟨h.1,e⟩,λk=>k.imp id λe=>e.2⟩
set_option tactic.hygienic true in
theorem yT(h:l.Pairwise (·<·)):(eA l r).Pairwise (·<·):=by
 unfold eA
 split
 ·exact h
 ·rename_i k
  simp only[not_or] at k
  exact mT (Mj.mpr ⟨kM h,Ll.mpr ⟨MU,Mw⟩,λx H y a e=>k.2 (hR (KU.mp a) (hR e H))⟩)
theorem F6(C:cN F M E [])(D:NC F M)(hz:∀f∈F,f.m≠0){c:Int×Int×Int}(G:E=E0++E1)(I:F=F0++F1)(g:dT (zw F0) E0)(A:cf E0 x c.1)(B:cf E0 y c.2.1)(ok:wH F0 c)(u:d5 M.up x c.1 l)(v:d5 M.up y c.2.1 L)
  (J:(eA (gq l L) c.2.2).length<=19):fZ F (F0.map (·.m)) (eA (gq l L) c.2.2) x y (-1):=by
 subst G I;have S:∀e∈E0,e∈E0++E1:=λe m=>Lb _ m;have t:∀f∈F0,f∈F0++F1:=λe m=>Lb _ m;have w:∀r∈l,r∈eA (gq l L) c.2.2:=λr h=>jp.mpr (.inl (kZ.mpr (.inl h)));have z:∀r∈L,r∈eA (gq l L) c.2.2:=λr h=>jp.mpr (.inl (kZ.mpr (.inr h)));have K:=ru C hz (A.bv S) u;have i:=ru C hz (B.bv S) v;refine⟨yT (Bs u.1 v.1),λr H=>?_,J,λe=>absurd e (by decide),λ_=>⟨?_,λk=>?_⟩⟩
 ·have key:∃f∈F0,f.m=r:=by
   rcases jp.mp H with h |⟨n,rfl⟩
   ·rcases kZ.mp h with h |h
    ·exact nj C.fo g S A u r h
    ·exact nj C.fo g S B v r h
   ·rcases ok with h |h |h
    ·exact(n h.1).elim
    ·exact⟨_,h,rfl⟩
    ·exact⟨_,h,rfl⟩
  refine aD key λf Q j=>?_;clear key H;subst j;exact LG.mpr ⟨f,Q,rfl⟩
 ·have P:∀{a b},tj F0 c.2.2 a b->tj (keep (F0++F1) (eA (gq l L) c.2.2)) c.2.2 a b:=λh=>eM.mpr ⟨t _ h,jp.mpr (.inr ⟨hz _ (t _ h),rfl⟩)⟩
  refine K4 ok (λR=>fe R λ_ N d s=>?_) λo=>K4 o (λh=>?_) λh=>?_
  ·refine⟨(7,8),.inl rfl,?_⟩
   have K:=f9 w K;have i:=f9 z i;refine K4 N (λN=>?_) λN=>?_ <;>rcases d with d |d
   ·exact(s (N.trans d.symm)).elim
   ·rw[N] at K;rw[d] at i;exact .inl ⟨K,i⟩
   ·rw[N] at K;rw[d] at i;exact .inr ⟨K,i⟩
   ·exact(s (N.trans d.symm)).elim
  ·exact⟨(c.1,c.2.1),.inr ⟨_,P h⟩,.inl ⟨f9 w K,f9 z i⟩⟩
  ·exact⟨(c.2.1,c.1),.inr ⟨_,P h⟩,.inr ⟨f9 w K,f9 z i⟩⟩
 ·refine D.u8 C ?_
  have k:=(n8 K).symm.trans ((n8 k).trans (n8 i));refine K4 ok (λp=>fe p λ_ N d s=>?_) λq=>K4 q (λh=>?_) λh=>?_
  ·rcases N with N |N<;>rcases d with d |d
   ·exact(s (N.trans d.symm)).elim
   ·rw[N,d] at k;exact .inl k
   ·rw[N,d] at k;exact .inl k.symm
   ·exact(s (N.trans d.symm)).elim
  ·exact .inr ⟨_,_,_,t _ h,k⟩
  ·exact .inr ⟨_,_,_,t _ h,k.symm⟩
theorem fZ.symm{t:Int}(h:fZ F Uu l x y t):fZ F Uu l y x t:=by exact⟨h.s,h.k,h.n,λe=>(h.e e).symm,λe=>ay (h.a e) λb H=>aD b λp a c=>⟨⟨p,a,c.elim (λk=>.inr ⟨k.2,k.1⟩) λk=>.inl ⟨k.2,k.1⟩⟩,λk=>H k.symm⟩⟩
end
section
variable {E:List cj} {x y t UB:Int} {Uu:List Int} {j:Nat}
theorem uX(R:AR h A)(H:ah A M)(f:dd F M E [])(hz:∀f∈F,f.m≠0)(nx:aj x)(n:aj y)(hd:lT F E x y Uu)(q:∀h' i l,AR h' i->ah i M->Fr pX A i->fZ F Uu l x y 1->Q (.fl (ae l)) h'):cw (j+2) "explain" [Me,.int x,.int y] Q h:=by
 have C:=f.C;have k:cf E x y:=by refine B2 hd.ex λE0 t E1 p a b d g c=>?_;subst a;clear C f hz;subst b;clear hd q;subst d;exact c.bv λe m=>Lb _ m
 have e:=(C.ro x y nx n).mpr k;exact hS R H C.u7 nx n e (C.pa nx n e) λu v l r s p o L=>q _ _ _ r s p (yZ C hz hd o (KQ L (by decide)))
theorem mA(R:AR h A)(H:ah A M)(f:dd F M E [])(hz:∀f∈F,f.m≠0)(hd:oN F M E t UB Uu)(q:∀h' u l p,M.aC t=U p->AR h' u->ah u M->Fr pX A u->fZ F Uu l p.1 p.2 UB->Q (.fl (ae l)) h'):cw (j+4) "explain_told" [Me,.int t] Q h:=by
 have C:=f.C;refine xj hd.ex λE0 G E1 v c B w x I r=>oW r λg T S d k=>?_;obtain⟨a,b⟩:=B;subst d;refine cH (C.si _ _ S) λn N _=>?_;have y:∀e∈E0,e∈E:=λe m=>Z w (Lb _ m);have J:∀f∈G,f∈F:=λe m=>Z x (Lb _ m);clear r hd;induction c with
 |none=>have k:cf E0 a b:=k;have e:=(C.ro a b n N).mpr (k.bv y);exact mi R H C.u7 S T n N e (C.pa n N e) λX A1 l z D G1 o L=>q _ _ _ _ S z D G1 (yZ C hz ⟨E0,G,E1,v,w,x,I,g,k⟩ o (KQ L (by decide)))
 |some c=>
  refine cH k λK P ok=>?_;have s:aj c.1/\aj c.2.1:=by exact K4 ok (λh=>⟨cd h.2.1,cd h.2.2.1⟩) λi=>K4 i (λh=>C.fn _ (J _ h)) λh=>(C.fn _ (J _ h)).symm
  have V:=(C.ro a c.1 n s.1).mpr (K.bv y);have W:=(C.ro b c.2.1 N s.2).mpr (P.bv y);exact mC R H C.u7 S T n N s.1 s.2 V W (C.pa n s.1 V) (C.pa N s.2 W) λX A1 l1 l2 z D v o1 o2 L=>q _ _ _ _ S z D v (Z I (F6 C f.nc hz w x g K P ok o1 o2 L))
end
structure Ls where
 spot:Nat
 a0:List (List bm)
 wd:Int->Option (Int×Int)
 tl:Int->Option (Int×List Int×Nat)
 eq:List Int->Option (List Int×Nat)
 g:Int
noncomputable def dL(f:bm):V:=.aA [.str (if f.je=true then "tie" else "part"),.int f.x,.int f.y,.int f.m]
noncomputable def ig(p:Int×List Int×Nat):V:=.aA [.int p.1,.fl (ae p.2.1),.int p.2.2]
noncomputable def jJ(p:List Int×Nat):V:=.aA [.fl (ae p.1),.int p.2]
noncomputable def gD:List (List Int):=[[1,0],[2,0],[2,1],[3,0],[3,1],[3,2],[4,0],[4,1],[4,2],[4,3],[5,0],[5,1],[5,2],[5,3],[5,4],[6,0],[6,1],[6,2],[6,3],[6,4],[6,5],[7,0],[7,1],[7,2],[7,3],[7,4],[7,5],[7,6],[8,0],[8,1],[8,2],[8,3],[8,4],[8,5],[8,6],[8,7]]
noncomputable def aO(A:AH)(n:Nat):List V:=(L3 n).map λ(i:Nat)=>V.ref (A.R 45 (i:Int))
noncomputable def zR(A:AH)(g:Int):List (String×V):=[("some",.fl (ae ar)),("inner",.ref (A.R 41 0)),("levels",.ref (A.R 44 0)),("watched",.ref (A.R 46 0)),("told",.ref (A.R 47 g)),("equal",.ref (A.R 48 g))]
structure et(A:AH)(cs:List Int)(S:Ls):Prop where
 cl:cs.length<=50
 nA:A.o 40 0=U (.dS [("cells",.fl (ae cs)),("spot",.int S.spot)])
 gV:A.o 41 0=U (.dI ar λt=>(ai.M.arg t).map V.int)
 bI:A.o 42 0=U (.dS (zR A S.g))
 a0:A.o 44 0=U (.list (aO A S.a0.length))
 lf:∀(i:Nat) l,S.a0[i]? =U l->A.o 45 (i:Int)=U (.list (l.map dL))
 wd:A.o 46 0=U (.dI fw λt=>(S.wd t).map b')
 tl:A.o 47 S.g=U (.dI fw λt=>(S.tl t).map ig)
 eq:A.o 48 S.g=U (.dP gD λt=>(S.eq t).map jJ)
noncomputable def p4(k:Nat):Bool:=LS 39 k&&LS k 49
theorem nz(k:Nat)(h:p4 k=true):pL k=true:=by have H:=((LL ..).mp ((h:(LS 39 k&&LS k 49)=true))).1;simp only[Nc] at H;unfold pL;refine Z (show LS 30 k=true from by rw[Nc];exact bM (kS _) 0x1131e47131132747 rfl H) ?_;rfl
theorem xg(k:Nat)(h:p4 k=true):pX k=true:=qe k (nz k h)
theorem Hd(k:Nat)(h:p4 k=true):pU k=true:=by
 unfold pU;have h':=h;unfold p4 at h';have H:=((LL ..).mp h').1;have c:∀j,LS 39 j=false->Ly k j=false:=λj a=>by
  induction q:Ly k j with
  |false=>rfl
  |true=>rw[Mc q,a] at H;exact aK H
 simp only[nz k h,c 25 rfl,c 26 rfl];rfl
variable {A':AH} {cs:List Int} {S:Ls}
theorem vc(f:Fr p4 A A')(n:Nat):aO A' n=aO A n:=by unfold aO;exact My λi _=>congrArg V.ref (cL f rfl)
theorem EJ(f:Fr p4 A A')(g:Int):zR A' g=zR A g:=by unfold zR;simp only[cL f (k:=41) rfl,cL f (k:=44) rfl,cL f (k:=46) rfl,cL f (k:=47) rfl,cL f (k:=48) rfl]
theorem et.fr(L:et A cs S)(f:Fr p4 A A'):et A' cs S:=
 ⟨L.cl,(f 40 0 rfl).1.trans L.nA,(f 41 0 rfl).1.trans L.gV,(f 42 0 rfl).1.trans (L.bI.trans (Z (EJ f _) rfl)),(f 44 0 rfl).1.trans (L.a0.trans (Z (vc f _) rfl)),λi l e=>(f 45 i rfl).1.trans (L.lf i l e),(f 46 0 rfl).1.trans L.wd,(f 47 _ rfl).1.trans L.tl,(f 48 _ rfl).1.trans L.eq⟩
noncomputable abbrev lw(n:Nat)(m:String):=a5 G1 T1 n m
noncomputable def Jv(k:Nat):Bool:=!(Ly k 40)
theorem wm{a b:Int}(H:0<b)(q:Q (.int (a %b)) h):sQ .CV (.int a) (.int b) Q h:=⟨H,q⟩
theorem pW(H:fits a)(B:fits b)(q:Q (.int (a*b)) h):sQ .mul (.int a) (.int b) Q h:=⟨H,B,q⟩
theorem ni(H:fits a)(B:fits b)(q:Q (.int (a+b)) h):sQ .add (.int a) (.int b) Q h:=⟨H,B,q⟩
theorem nx{P:PS}(q:P .next J h):St.bh G1 C [] J P h:=q
theorem rt{P:PS}(q:ai.Ex.wp G1 C e J (G3 P J) h):St.bh G1 C [.ret e] J P h:=q
theorem er(q:ai.Ex.wp G1 C a J (oo (ai.Ex.wp G1 C b J) (HQ op Q)) h):ai.Ex.wp G1 C (.hQ op a b) J Q h:=q
theorem k3(q:ai.Ex.bh G1 C es J (Jo b Q) h):ai.Ex.wp G1 C (.bi b es) J Q h:=q
theorem av{P:List V->Hp->Prop}(q:ai.Ex.wp G1 C e J (oo (ai.Ex.bh G1 C es J) (D1 P)) h):ai.Ex.bh G1 C (e::es) J P h:=q
theorem Ap(q:Q (.int a) h):pQ .int [.int a] Q h:=q
theorem bY{i:Int}(a:0<=i)(b:i<=1000000000):fits i:=⟨MI (by decide) a,MI b (by decide)⟩
theorem DQ(R:AR h A){spot:Nat}(C:cs.length<=50)(of:A.o 40 0=U (.dS [("cells",.fl (ae cs)),("spot",.int spot)]))(s:spot<=1000){w:Int}(H:0<w)
  (q:∀v,0<=v->v<w->∀h',AR h' (A.set 40 0 (.dS [("cells",.fl (ae cs)),("spot",.int (spot+1))]))->Q (.int v) h'):lw (n+1) "_law_next" [.ref (A.R 40 0),.int w] Q h:=by
 refine ab uq ⟨rfl,dm R of (i:="spot") rfl ⟨aX rfl,⟨eC (KQ s (by decide)),eC (k:=1) (by decide),y' (fs':=[("cells",.fl (ae cs)),("spot",.int (spot+1))]) R of (aX rfl) rfl λb r=>?_⟩⟩⟩;have L:(ae cs).length<=50:=Z (bb _) C;have l:(A.set 40 0 (.dS [("cells",.fl (ae cs)),("spot",.int (spot+1))])).o 40 0=U (.dS [("cells",.fl (ae cs)),("spot",.int (spot+1))]):=rfl;refine dm (A:=A.set 40 0 _) r l (i:="cells") rfl ⟨KQ L (by decide),?_⟩;by_cases c:spot<cs.length
 ·refine ab (a:=true) (congrArg U (decide_eq_true (Z (bb _) (Nd.mpr c)))) ?_
  have E:jr (ae cs) (spot:Int)=U (.int cs[spot]):=by refine Z (hU _ _) ?_;unfold ae;refine Z (ML) (Z (L8 c) ?_);rfl
  refine bW rfl (dm (A:=A.set 40 0 _) r l (i:="cells") rfl (aB rfl (ab E (ax (Ap (aB rfl (wm H ?_)))))));exact⟨_,_,.refl,q _ (OU _ (Ok H)) (Os _ H) _ r⟩
 ·refine ab (a:=false) (congrArg U (decide_eq_false (Z (bb _) λe=>c (Nd.mp e)))) ?_
  have s0:(0:Int)<=(spot:Int):=LO _;have d:11*(spot:Int)*spot<=11000000:=by exact(Int.mul_le_mul (by lia) (MS.mpr s:(spot:Int)<=1000) s0 (by decide):11*(spot:Int)*spot<=11000*1000)
  have S:0<=11*(spot:Int)*spot:=Int.mul_nonneg (by omega) s0;refine bH rfl (nx (rt (er (er (k3 (av (er (er (er (er (aS (aB rfl (pW (bY (by decide) (by decide)) (bY s0 (by omega)) (aB rfl ?_))))))))))))));refine pW (bY (by omega) (by lia)) (bY s0 (by omega)) (er (aS (aB rfl (pW (bY (by decide) (by decide)) (bY s0 (by omega)) (ni (bY S (by omega)) (bY (by omega) (by lia)) (er (aS ?_)))))));refine k3 (av (dm (A:=A.set 40 0 _) r l (i:="cells") rfl (ax ⟨KQ L (by decide),pW (bY (by decide) (by decide)) (bY (LO _:(0:Int)<=((ae cs).length:Int)) (by lia)) (ni (bY (by omega) (by omega)) (bY (by lia) (by lia)) (ax (Ap ?_)))⟩)));exact aS (wm (by decide) (aB rfl (wm H ⟨_,_,.refl,q _ (OU _ (Ok H)) (Os _ H) _ r⟩)))
theorem next(R:AR h A)(L:et A cs S)(s:S.spot<=1000){w:Int}(H:0<w)(q:∀v,0<=v->v<w->∀h' A',AR h' A'->et A' cs {S with spot:=S.spot+1}->Fr Jv A A'->A'.R 40 0=A.R 40 0->Q (.int v) h'):lw (n+1) "_law_next" [.ref (A.R 40 0),.int w] Q h:=
 DQ R L.cl L.nA s H λv V a b r=>q v V a _ _ r ⟨L.cl,rfl,L.gV,L.bI,L.a0,L.lf,L.wd,L.tl,L.eq⟩ (.set rfl) rfl
theorem B6{v:V}{l:List V}(e:(aO A n).drop i=v::l):i<n/\v=.ref (A.R 45 (i:Int))/\l=(aO A n).drop (i+1):=by
 have H:(aO A n).length=n:=by unfold aO;(exact Z (KS _) (Z L0 rfl))
 have lt:i<n:=by refine K4 (OR i n) (λh=>h) λh=>?_;replace e:=(MQ (Z H h))▸e;exact(nomatch e)
 replace e:=(ME (Z H lt))▸e;injection e with E a;refine⟨lt,hR E ?_,a.symm⟩;unfold aO;exact Z (RQ _) (Z (Rl _) rfl)
theorem qE(l:List (List bm))(i:Nat):(l.take i).flatten.length<=l.flatten.length:=by
 conv=>rhs;rw[<-QU i l]
 exact Z Of (Z KW (Lr _ _))
inductive SI(A:AH)(S:Ls)(H:Hp)(l:List V)(J:aV)(h:Hp):Prop
 |mk (i:Nat) (x:Option V) (e:h=H) (I:i<=S.a0.length) (E:l=(aO A S.a0.length).drop i) (d9:J=[U (.ref (A.R 42 0)),U (.fl ((S.a0.take i).flatten.map dL)),x])
theorem xd{l:List (List bm)}{i:Nat}(lt:i<l.length):(l.take i).flatten.map dL++(l[i]).map dL=(l.take (i+1)).flatten.map dL:=by refine Z (PG lt:l.take (i+1)=l.take i++[l[i]]) (Z Of (Z Lm ?_));simp
theorem sV(R:AR h A)(L:et A cs S)(B:S.a0.flatten.length<=1000)(q:Q (.fl (S.a0.flatten.map dL)) h):lw (n+1) "_law_standing" [.ref (A.R 42 0)] Q h:=by
 refine ab n9 ⟨rfl,bz (Lf _) ⟨aX rfl,dm R L.bI (i:="levels") rfl (ab (cW R L.a0) (iN (xs:=aO A S.a0.length) (SI A S h) (λl J h' i=>match i with |⟨_,_,e,_,_,_⟩=>Z e (R.ip L.a0)) ?_ ?_ ⟨0,_,rfl,Lf _,rfl,rfl⟩))⟩⟩
 ·intro v l J h' K V I k
  obtain⟨i,x,H,g,b,d9⟩:=I;clear q;subst H d9;refine cH (B6 b.symm) λlt E a=>?_;clear V;subst E;clear b;subst a;have f:=xd lt;have c:((S.a0.take i).flatten.map dL++(S.a0[i]).map dL).length<=1000:=by(refine Z f (Z (KS _) ?_));exact KQ (qE S.a0 (i+1)) B
  have d:=KQ (K2 KW.symm) (KQ c (by decide:1000<=aN));exact⟨aX rfl,BA (bU R (L.lf i _ (L8 lt))) (KQ (Lr _ _) d) (KQ (Ng _ _) d) (bz (KQ c (by decide)) ⟨aX rfl,f▸(k _ _ ⟨i+1,_,rfl,lt,rfl,rfl⟩)⟩)⟩
 ·intro J h' I
  obtain⟨i,x,H,g,b,d9⟩:=I;clear R;subst H d9;have j:(aO A S.a0.length).length=S.a0.length:=by unfold aO;(exact Z (KS _) (Z L0 rfl))
  exact Z (NU (hR j (Q7.mp b.symm))) ⟨_,_,.refl,q⟩
noncomputable def eZ(c:Int->Int)(o n:Int):Int->Int:=λt=>if c t=o then n else c t
noncomputable def qf(s:(Int->Int)×Bool)(p:Int×Int):(Int->Int)×Bool:=if s.1 p.1=s.1 p.2 then s else(eZ s.1 (s.1 p.1) (s.1 p.2),true)
noncomputable def Au(s:(Int->Int)×Bool)(P:List (Int×Int)):(Int->Int)×Bool:=P.foldl qf s
noncomputable def t5:List Int:=[0,1,2,3,4,5,6,7,8]
noncomputable def tT(c:Int->Int):Nat:=(t5.filter λk=>ar.any λt=>c t==k).length
theorem Du(s:(Int->Int)×Bool)(P:List (Int×Int))(p:Int×Int):Au s (P++[p])=qf (Au s P) p:=Nk
structure h9(T:Int->Int->Prop)(c:Int->Int)(done:List (Int×Int))(s:(Int->Int)×Bool):Prop where
 bv:∀a b,c a=c b->s.1 a=s.1 b
 eq:∀p∈done,s.1 p.1=s.1 p.2
 same:s.2=false->s.1=c
 eg:∀a b,aj a->aj b->s.1 a=s.1 b->Cl T a b
 k9:∀t,aj t->s.1 t∈t5
 Di:tT s.1<=tT c
 lt:s.2=true->tT s.1<tT c
theorem iE{c:Int->Int}{k:Int}:(ar.any λt=>c t==k)=true↔∃t,aj t/\c t=k:=by
 refine iR RU ?_;constructor;·rintro q;exact aD q λt m e=>⟨t,hP m,beq_iff_eq.mp e⟩
 ·rintro Q;exact aD Q λt n e=>⟨t,aR n,beq_iff_eq.mpr e⟩
set_option tactic.hygienic true in
theorem h9.step{T:Int->Int->Prop}{g:Int->Int}{done:List (Int×Int)}{s:(Int->Int)×Bool}(k:h9 T g done s){p:Int×Int}(n:aj p.1)(N:aj p.2)(H:Cl T p.1 p.2):h9 T g (done++[p]) (qf s p):=by
 unfold qf
 by_cases c:s.1 p.1=s.1 p.2
 ·refine Z (if_pos c) ⟨k.bv,λq m=>K4 (K8.mp m) (λm=>k.eq q m) λm=>?_,k.same,k.eg,k.k9,k.Di,k.lt⟩
  cases KU.mp m;exact c
 ·refine Z (if_neg c) ?_
  have re:∀{a b},s.1 a=s.1 b->eZ s.1 (s.1 p.1) (s.1 p.2) a=eZ s.1 (s.1 p.1) (s.1 p.2) b:=λe=>by unfold eZ;exact Z e rfl
  have lt:tT (eZ s.1 (s.1 p.1) (s.1 p.2))+1<=tT s.1:=by
   refine wv (c:=s.1 p.1) (iE.mpr ⟨_,n,rfl⟩) ?_ (λx h=>?_) t5 (k.k9 _ n)
   ·simp only[Bool.eq_false_iff]
    intro h
    refine aD (iE.mp h) λt d e=>?_
    unfold eZ at e
    split at e
    ·exact c e.symm
    ·rename_i q;exact q e
   ·refine aD (iE.mp h) λt d e=>?_
    unfold eZ at e
    split at e
    ·exact iE.mpr ⟨_,N,e⟩
    ·exact iE.mpr ⟨t,d,e⟩
  refine⟨λa b e=>re (k.bv a b e),λq m=>?_,λe=>(nomatch e),λa b f B e=>?_,λt d=>?_,KQ (LJ lt) k.Di,λ_=>Li lt k.Di⟩
  ·refine K4 (K8.mp m) (λm=>re (k.eq q m)) λm=>?_
   ·cases KU.mp m
    refine(?_ :eZ _ _ _ _=eZ _ _ _ _)
    unfold eZ
    exact Z (if_pos rfl) (Z (if_neg λe=>c e.symm) rfl)
  ·have e:eZ s.1 (s.1 p.1) (s.1 p.2) a=eZ s.1 (s.1 p.1) (s.1 p.2) b:=e
   unfold eZ at e
   by_cases A:s.1 a=s.1 p.1
   ·by_cases C:s.1 b=s.1 p.1
    ·exact k.eg a b f B (A.trans C.symm)
    ·rw[if_pos A,if_neg C] at e
     exact(k.eg a p.1 f n A).trans (H.trans (k.eg p.2 b N B e))
   ·by_cases C:s.1 b=s.1 p.1
    ·rw[if_neg A,if_pos C] at e
     exact(k.eg a p.2 f N e).trans (H.symm.trans (k.eg p.1 b n B C.symm))
    ·rw[if_neg A,if_neg C] at e
     exact k.eg a b f B e
  ·refine(?_ :eZ _ _ _ t∈t5)
   unfold eZ
   split
   ·exact k.k9 _ N
   ·exact k.k9 _ d
noncomputable def oC(c:Int->Int)(P:List (Int×Int))(a b u v:Int):List (Int×Int):=if c u=c v then P++[(a,b)] else P
noncomputable def f1(c:Int->Int)(P:List (Int×Int)):List (Int×Int):=oC c (oC c (oC c P 10 9 4 3) 11 9 5 3) 11 10 5 4
theorem tB(c:Int->Int)(P:List (Int×Int))(a b u v:Int):(oC c P a b u v).length<=P.length+1:=by
 unfold oC;split;·exact K2 (bf _)
 ·exact LN _
set_option tactic.hygienic true in
theorem oO{c:Int->Int}{P:List (Int×Int)}{p:Int×Int}:p∈oC c P a b u v↔p∈P\/(c u=c v/\p=(a,b)):=by
 unfold oC
 split
 ·rename_i h
  simp only[K8,KU]
  exact⟨λk=>k.imp id λe=>⟨h,e⟩,λk=>k.imp id λe=>e.2⟩
 ·rename_i h
  exact⟨.inl,λk=>k.elim id λe=>(h e.1).elim⟩
theorem ht{c:Int->Int}{P:List (Int×Int)}{p:Int×Int}:p∈f1 c P↔p∈P\/(c 4=c 3/\p=(10,9))\/(c 5=c 3/\p=(11,9))\/(c 5=c 4/\p=(11,10)):=by unfold f1;simp only[oO,oO,oO,or_assoc,or_assoc]
noncomputable def mq(F:List bm):List (Int×Int):=F.filterMap λf=>if f.je=true then U (f.x,f.y) else KT
set_option tactic.hygienic true in
theorem oE{F:List bm}{p:Int×Int}:p∈mq F↔∃m,(⟨true,p.1,p.2,m⟩:bm)∈F:=by
 unfold mq
 refine iR NM ?_
 constructor
 ·rintro q;refine aD q λb a H=>?_;obtain⟨t,x,y,m⟩:=b
  dsimp only at H
  split at H
  ·rename_i T
   (replace H:=KP H;clear q;subst H);subst T
   exact⟨m,a⟩
  ·exact al H
 ·rintro Q;refine cY Q λm h=>?_
  exact⟨_,h,if_pos rfl⟩
structure iw(F:List bm)(c:Int->Int)(b:Bool)(P:List (Int×Int)):Prop where
 eg:∀x y,aj x->aj y->c x=c y->Cl (fR F) x y
 k9:∀t,aj t->c t∈t5
 FR:(P=mq F/\b=true)\/(P=[]/\∀p∈mq F,c p.1=c p.2)
 done:b=false->∀x y u v,ai.M.arg x=U u->ai.M.arg y=U v->c u=c v->c x=c y
theorem iw.start{F:List bm}:iw F (λt=>t-3) true (mq F):=
 ⟨λx y _ _ e=>(Int.sub_left_inj 3).mp e▸.refl,λt n=>by rcases c5 n with rfl |rfl |rfl |rfl |rfl |rfl |rfl |rfl |rfl<;>decide,.inl ⟨rfl,rfl⟩,λe=>nomatch e⟩
theorem iw.HN{F:List bm}{c:Int->Int}{b:Bool}{P:List (Int×Int)}(k:iw F c b P)(n:∀f∈F,aj f.x/\aj f.y):∀p∈f1 c P,aj p.1/\aj p.2/\Cl (fR F) p.1 p.2:=by
 intro p H;rcases ht.mp H with h |⟨h,rfl⟩ |⟨h,rfl⟩ |⟨h,rfl⟩
 ·refine K4 k.FR (λr=>ay r λe _=>?_) λR=>ay R λe _=>?_
  ·rw[e] at h
   exact cY (oE.mp h) λm h=>ay (n _ h) λN a=>⟨N,a,.je ⟨m,.inl h⟩⟩
  ·rw[e] at h;exact(nomatch h)
 ·exact⟨by decide,by decide,.congr (u:=4) (v:=3) rfl rfl (k.eg 4 3 (by decide) (by decide) h)⟩
 ·exact⟨by decide,by decide,.congr (u:=5) (v:=3) rfl rfl (k.eg 5 3 (by decide) (by decide) h)⟩
 ·exact⟨by decide,by decide,.congr (u:=5) (v:=4) rfl rfl (k.eg 5 4 (by decide) (by decide) h)⟩
theorem h9.start{F:List bm}{c:Int->Int}{b:Bool}{P:List (Int×Int)}(k:iw F c b P):h9 (fR F) c [] (c,false):=
 ⟨λ_ _ e=>e,λ_ m=>(nomatch m),λ_=>rfl,k.eg,k.k9,K9 _,λe=>(nomatch e)⟩
theorem iw.next{F:List bm}{c:Int->Int}{b:Bool}{P:List (Int×Int)}(k:iw F c b P){s:(Int->Int)×Bool}(o:h9 (fR F) c (f1 c P) s):iw F s.1 s.2 []:=by
 refine⟨o.eg,o.k9,.inr ⟨rfl,λp a=>K4 k.FR (λr=>ay r λe _=>o.eq p (ht.mpr (.inl (Z e a)))) λR=>ay R λ_ e=>o.bv _ _ (e p a)⟩,λe x y u v g i H=>?_⟩
 ·have es:=o.same e
  rw[es] at H⊢;have E:∀p∈f1 c P,c p.1=c p.2:=λp a=>by have:=o.eq p a;rwa[es] at this
  have K:=λh=>E (10,9) (ht.mpr (.inr (.inl ⟨h,rfl⟩)));have d:=λh=>E (11,9) (ht.mpr (.inr (.inr (.inl ⟨h,rfl⟩))));have f:=λh=>E (11,10) (ht.mpr (.inr (.inr (.inr ⟨h,rfl⟩))));rcases f0 g with⟨rfl,rfl⟩ |⟨rfl,rfl⟩ |⟨rfl,rfl⟩<;>rcases f0 i with⟨rfl,rfl⟩ |⟨rfl,rfl⟩ |⟨rfl,rfl⟩
  ·rfl
  ·exact(K H.symm).symm
  ·exact(d H.symm).symm
  ·exact K H
  ·rfl
  ·exact(f H.symm).symm
  ·exact d H
  ·exact f H
  ·rfl
def FW(F:List bm)(c:Int->Int):Prop:=∀x y,aj x->aj y->(c x=c y↔Cl (fR F) x y)
theorem iw.cU{F:List bm}{c:Int->Int}{P:List (Int×Int)}(k:iw F c false P):FW F c:=by
 intro x y nx n;refine⟨k.eg x y nx n,λh=>?_⟩;clear nx n;have t:∀p∈mq F,c p.1=c p.2:=k.FR.elim (λh=>nomatch h.2) λh=>h.2;induction h with
 |je h=>
  obtain⟨m,h |h⟩:=h;·exact t (_,_) (oE.mpr ⟨m,h⟩)
  ·exact(t (_,_) (oE.mpr ⟨m,h⟩)).symm
 |refl=>rfl
 |symm _ i=>exact i.symm
 |trans _ _ a b=>exact a.trans b
 |congr e E _ i=>exact k.done rfl _ _ _ _ e E i
noncomputable def pC(k:Nat):Bool:=!(Ly k 49||Ly k 50)
noncomputable def w2(i:Nat)(t:Int):Option V:=if 3<=t/\t<3+(i:Int) then U (.int (t-3)) else KT
noncomputable def lO(c:Int->Int)(o n:Int)(l:List Int):Int->Int:=λt=>if t∈l/\c t=o then n else c t
noncomputable def nN:List Int:=[9,10,11]
theorem j6{p:Nat->Bool}(f:Fr p A A'){k:Nat}:p k=true->A'.R k t=A.R k t:=λe=>cL f e
theorem xX{i:Nat}(h:i<9):ft (w2 i) (3+(i:Int)) (U (.int i))=w2 (i+1):=by
 funext x;refine(?_ :(if x=3+(i:Int) then U (V.int i) else if 3<=x/\x<3+(i:Int) then U (V.int (x-3)) else KT)=if 3<=x/\x<3+((i+1:Nat):Int) then U (V.int (x-3)) else KT);by_cases c:x=3+(i:Int);·refine Z (if_pos c) (Z (if_pos (by omega)) (Z c ?_));congr;lia
 ·refine Z (if_neg c) ?_
  by_cases d:3<=x/\x<3+(i:Int);·exact Z (if_pos d) (Z (if_pos (by omega)) rfl)
  ·exact Z (if_neg d) (Z (if_neg (by omega)) rfl)
theorem yr:w2 9=hZ λt=>t-3:=by
 funext x;refine(?_ :(if 3<=x/\x<3+((9:Nat):Int) then U (V.int (x-3)) else KT)=if aj x then _ else _);by_cases d:aj x;·exact Z (if_pos d) (Z (if_pos (by unfold aj at d;omega)) rfl)
 ·exact Z (if_neg d) (Z (if_neg (by unfold aj at d;omega)) rfl)
theorem jc{i:Nat}(h:i<9):jr (ae ar) (i:Int)=U (.int (3+(i:Int))):=by refine(if_pos (LO i)).trans ((Z (ML) (Z ((by decide:∀i:Nat,i<9->ar[i]? =U (3+(i:Int))) i h) ?_)):(ar.map V.int)[i]? =_);rfl
theorem xp(c:Int->Int)(o n:Int):lO c o n []=c:=by funext t;exact if_neg λh=>nomatch h.1
theorem xK(c:Int->Int)(o n:Int):hZ (lO c o n ar)=hZ (eZ c o n):=by
 funext t;refine(?_ :(if aj t then _ else _)=(if aj t then _ else _));by_cases d:aj t
 ·refine Z (if_pos d) (Z (if_pos d) (?_ :U (V.int (if t∈ar/\c t=o then n else c t))=U (V.int (if c t=o then n else c t))))
  by_cases e:c t=o;·exact Z (if_pos ⟨aR d,e⟩) (Z (if_pos e) rfl)
  ·exact Z (if_neg λk=>e k.2) (Z (if_neg e) rfl)
 ·exact Z (if_neg d) (Z (if_neg d) rfl)
theorem xl{c:Int->Int}{o n t:Int}(e:c t=o):aH (lO c o n l) t n=lO c o n (l++[t]):=by
 funext x;refine(?_ :(if x=t then n else if x∈l/\c x=o then n else c x)=if x∈l++[t]/\c x=o then n else c x);by_cases d:x=t;·exact Z (if_pos d) (Z (if_pos ⟨Ld _ (KU.mpr d),Z d e⟩) rfl)
 ·refine Z (if_neg d) ?_
  by_cases k:x∈l/\c x=o;·exact Z (if_pos k) (Z (if_pos ⟨Lb _ k.1,k.2⟩) rfl)
  ·exact Z (if_neg k) (Z (if_neg λq=>k ⟨(K8.mp q.1).resolve_right λm=>d (KU.mp m),q.2⟩) rfl)
theorem vT{c:Int->Int}{o n t:Int}(e:c t≠o):lO c o n l=lO c o n (l++[t]):=by
 funext x;refine(?_ :(if x∈l/\c x=o then n else c x)=if x∈l++[t]/\c x=o then n else c x);by_cases d:x=t;·subst d;exact Z (if_neg λk=>e k.2) (Z (if_neg λk=>e k.2) rfl)
 ·by_cases k:x∈l/\c x=o
  ·exact Z (if_pos k) (Z (if_pos ⟨Lb _ k.1,k.2⟩) rfl)
  ·exact Z (if_neg k) (Z (if_neg λq=>k ⟨(K8.mp q.1).resolve_right λm=>d (KU.mp m),q.2⟩) rfl)
noncomputable def Gb(k:Nat):Bool:=!(Ly k 49)
noncomputable def Iw(k:Nat):Bool:=!(Ly k 50)
theorem uJ{c:Int->Int}{P:PS}(H:13<J.length)(j:(J[3]?).join=U (.ref (A.R 49 0)))(E:(J[11]?).join=U (.int o))(g:(J[12]?).join=U (.int nw))(R:AR h A)(hd:A.o 49 0=U (.dI ar (hZ c)))
  (q:∀h' A' y,AR h' A'->A'.o 49 0=U (.dI ar (hZ (eZ c o nw)))->A'.R 49 0=A.R 49 0->Fr Gb A A'->P .next (J.set 13 y) h'):
  ∃n,dr (λv J Q h=>Tg.wp G1 C (.var 13) v J Q h) (λJ Q h=>St.bh G1 C [.cG (.bV .eq (.sub (.var 3) (.var 13)) (.var 11)) [.a8 (.sub (.var 3) (.var 13)) (.var 12)] []] J Q h) n (.bo (ae ar)) J P h:=by
 refine i8 (λl A'=>A'.o 49 0=U (.dI ar (hZ (lO c o nw l)))/\A'.R 49 0=A.R 49 0/\Fr Gb A A') H (λl t L A' h' K e b r k=>?_) (λA' h' y b r=>q _ _ y r (xK c o nw▸b.1) b.2.1 b.2.2) R ⟨by refine Z (xp _ _ _) ?_;exact hd,rfl,.refl⟩;have N:aj t:=hP (Z e (Ld _ KX));have D:=dx;replace D:=e▸D;have T:lO c o nw l t=c t:=if_neg λk=>(λm=>(Mj.mp D).2.2 t m t KX rfl:t∉l) k.1;have i:((J.set 13 (U (.int t)))[3]?).join=U (.ref (A'.R 49 0)):=Z (d6 (by decide)) (Z j (Z b.2.1 rfl));have f:((J.set 13 (U (.int t)))[13]?).join=U (.int t):=by refine Z (hh H) ?_;rfl
 refine ab i (ab f (cI r b.1 (rd N) (ab (a:=.int o) (Z (d6 (by decide)) E) (Z T ?_))));by_cases d:c t=o;·refine kl d (ab (a:=.int nw) (Z (d6 (by decide)) g) (ab i (ab f (cF r b.1 (aR N) λs p=>k _ _ p ⟨hR (xl d) (hR (kn N) ?_),b.2.1,b.2.2.trans (.set rfl)⟩))));rfl
 ·exact js d (k _ _ r ⟨vT d▸b.1,b.2⟩)
theorem k'{c:Int->Int}{u v:Int}{P:List (Int×Int)}{Po:PS}{r:V}(f:(J[1]?).join=U (.ref (A.R 41 0)))(g:(J[3]?).join=U (.ref (A.R 49 0)))(o:(J[5]?).join=U (.ref (A.R 50 0)))(e:(J[7]?).join=U (.fl (ae nN)))(i:(J[8]?).join=U (.int j))(l:(J[4]?).join=U (.int k))
  (m:jr (ae nN) j=U (.int a))(K:jr (ae nN) k=U (.int b))(n:ai.M.arg a=U u)(B:ai.M.arg b=U v)(R:AR h A)(I:A.o 41 0=U (.dI ar λt=>(ai.M.arg t).map V.int))(hd:A.o 49 0=U (.dI ar (hZ c)))(H:A.o 50 0=U (.list (P.map b')))(L:P.length<=2000)
  (q:∀h' A',AR h' A'->A'.o 50 0=U (.list ((oC c P a b u v).map b'))->A'.R 50 0=A.R 50 0->Fr Iw A A'->Po .next J h'):
  St.bh G1 C [.cG (.bV .eq (.sub (.var 3) (.sub (.var 1) (.sub (.var 7) (.var 8)))) (.sub (.var 3) (.sub (.var 1) (.sub (.var 7) (.var 4))))) [.expr (.az (.var 5) "append" [.aA [.sub (.var 7) (.var 8),.sub (.var 7) (.var 4)]])] []] J Po h:=by
 refine ay (aZ n) λ_ N=>ay (aZ B) λ_ p=>ab g (ab f (ab e (ab i (ab m (cI R I (v:=.int u) (by refine Z n ?_;rfl) (cI R hd (rd N) ?_))))));refine ab g (ab f (ab e (ab l (ab K (cI R I (v:=.int v) (by refine Z B ?_;rfl) (cI R hd (rd p) ?_))))));by_cases d:c u=c v
 ·have E:oC c P a b u v=P++[(a,b)]:=if_pos d
  replace q:=E▸q;exact kl d (ab o (ab (aq R H) ⟨rfl,ab e (ab i (ab m (ab e (ab l (ab K ⟨(by decide:2<=aN),aq R H,bJ R H (Z (KS _) (K6 L (by decide))) λw s=>q _ _ s (by refine Z Lm ?_;rfl) rfl (.set rfl)⟩)))))⟩))
 ·have E:oC c P a b u v=P:=if_neg d
  replace q:=E▸q;exact js d (q _ _ R H rfl .refl)
theorem aY{P:PS}(q:ai.Ex.wp G1 C e J (Fq (Tg.wp G1 C t) J (n6 (St.bh G1 C r) P)) h):St.bh G1 C (.a8 t e::r) J P h:=q
theorem mL{j:Nat}{elt:ai.Ex}{c:Option ai.Ex}(e:(J[j]?).join=U (.fl xs))(n:Nat)
  (q:iter (w7 (λv=>ai.Ex.Eh G1 C c (J.set i (U v))) (λv=>ai.Ex.wp G1 C elt (J.set i (U v)))) n (.bo xs) [] (jA Q) h):ai.Ex.wp G1 C (.comp elt i (.var j) c) J Q h:=ab e ⟨n,q⟩
theorem comp_map{a:Type}{step:V->List V->(List V->Hp->Prop)->Hp->Prop}{e:a->V}{f:a->Option V}{P:List V->Hp->Prop}:∀(l:List a) (acc:List V),acc.length+l.length<=aN->(∀x∈l,∀acc (K:List V->Hp->Prop),acc.length<aN->K (acc++(f x).toList) h->step (e x) acc K h)->P (acc++l.filterMap f) h->iter step (l.length+1) (.bo (l.map e)) acc P h
 |[],acc,_,_,q=>by simp only[Ps,Lk] at q;exact q
 |v::l,acc,b,s,q=>by
  simp only[LK] at b;refine s v KX acc _ (bM (io _ _ _) 0x11378131113978 rfl b) (comp_map l _ ?_ (λx m=>s x (K1 _ m)) ?_)
  ·have:=toList_len (f v)
   exact Z KW (bM (lN _ _ _ _) 0x19187a13111397a13813 rfl b this)
  have:(v::l).filterMap f=(f v).toList++l.filterMap f:=by simp only[Lu];cases f v<;>rfl
  simp only[Lj,<-this];exact q
theorem f8{i:Nat}{v:V}{l:List V}(e:((L3 n).map λ(i:Nat)=>V.int i).drop i=v::l):i<n/\v=.int i/\l=((L3 n).map λ(i:Nat)=>V.int i).drop (i+1):=by
 have H:((L3 n).map λ(i:Nat)=>V.int i).length=n:=by(exact Z (KS _) (Z L0 rfl))
 have lt:i<n:=by refine K4 (OR i n) (λh=>h) λh=>?_;replace e:=(MQ (Z H h))▸e;exact(nomatch e)
 replace e:=(ME (Z H lt))▸e;injection e with E a;refine⟨lt,?_,a.symm⟩
 (exact hR E (Z (RQ _) (Z (Rl _) rfl)))
theorem qy{i:Nat}(e:[]=((L3 n).map λ(i:Nat)=>V.int i).drop i):n<=i:=by exact hR (Z (KS _) (Z L0 rfl):((L3 n).map λ(i:Nat)=>V.int i).length=n) (Q7.mp e.symm)
theorem AT{s t:String}{P:Bool->Prop}(q:P (s==t)):bB (gI h .eq (.str s) (.str t)) P:=q
theorem yY(F:List bm):F.filterMap (λf=>if f.je=true then U (b' (f.x,f.y)) else KT)=(mq F).map b':=by
 induction F with
 |nil=>rfl
 |cons f F i=>
  unfold mq at i⊢;simp only[Lu,Lu,i];by_cases c:f.je=true;·refine Z (if_pos c) (Z (if_pos c) ?_);rfl
  ·exact Z (if_neg c) (Z (if_neg c) rfl)
theorem BC{i:Nat}{F:List bm}{P:List V->Hp->Prop}(H:i<J.length)(b:F.length<=1000)(q:P ((mq F).map b') h):
  iter (w7 (λv=>ai.Ex.Eh G1 C (U (.bV .eq (.sub (.var i) (.aE (.int 0))) (.aE (.str "tie")))) (J.set i (U v))) (λv=>ai.Ex.wp G1 C (.aA [.sub (.var i) (.aE (.int 1)),.sub (.var i) (.aE (.int 2))]) (J.set i (U v)))) (F.length+1) (.bo (F.map dL)) [] P h:=by
 refine comp_map (f:=λf=>if f.je=true then U (b' (f.x,f.y)) else KT) F [] (Z NL (Z (ND _) (KQ b (by decide)))) (λf d acc K A k=>?_) (by exact Z (yY _) q);have g:∀v,((J.set i (U v))[i]?).join=U v:=λv=>by refine Z (hh H) ?_;rfl
 refine ab (g _) (aS (ab (a:=V.str (if f.je=true then "tie" else "part")) rfl (aS (AT ?_))));induction c:f.je with
 |true=>replace k:=c▸k;exact bW rfl (ab (g _) (aS (ab (a:=V.int f.x) rfl (ab (g _) (aS (ab (a:=V.int f.y) rfl ⟨(by decide:2<=aN),A,k⟩))))))
 |false=>replace k:=c▸k;refine bH rfl ?_;simpa using k
theorem t7(k:Nat)(h:pC k=true):Gb k=true/\Iw k=true:=by unfold pC at h;delta Gb Iw;cases a:Ly k 49<;>cases b:Ly k 50<;>rw[a,b] at h<;>first |exact⟨rfl,rfl⟩ |exact aK h
noncomputable def yp(A:AH)(F:List bm)(b c x6 x7 x8 x9 x10 x X a:Option V):aV:=[U (.fl (ae ar)),U (.ref (A.R 41 0)),U (.fl (F.map dL)),U (.ref (A.R 49 0)),b,c,x6,x7,x8,x9,x10,x,X,a,KT,KT]
theorem Af(h:A'.R 41 0=A.R 41 0)(H:A'.R 49 0=A.R 49 0):yp A'=yp A:=by unfold yp;exact Z h (Z H rfl)
noncomputable def Im:List St:=match c3.body.drop 4 with
 |.while _ b::_=>b
 |_=>[]
inductive Kf(A:AH)(F:List bm)(l:List V)(J:aV)(h:Hp):Prop
 |mk (A':AH) (i:Nat) (y:Option V) (I:i<=9) (e:l=((L3 9).map λ(i:Nat)=>V.int i).drop i) (E:J=yp A' F y KT KT KT KT KT KT KT KT KT) (R:AR h A') (d:A'.o 49 0=U (.dI ar (w2 i))) (f:Fr pC A A')
theorem CB{F:List bm}{P:PS}(R:AR h A)(q:∀h' A' y,AR h' A'->A'.o 49 0=U (.dI ar (hZ λt=>t-3))->Fr pC A A'->St.bh G1 (lw n) (c3.body.drop 2) (yp A' F y KT KT KT KT KT KT KT KT KT) P h'):
  St.bh G1 (lw n) c3.body [U (.fl (ae ar)),U (.ref (A.R 41 0)),U (.fl (F.map dL)),KT,KT,KT,KT,KT,KT,KT,KT,KT,KT,KT,KT,KT] P h:=by
 refine aY (d0 (mY 49 0 ar R (aX rfl) λM s o=>⟨aX rfl,(by decide:9<=aN),by decide,by decide,ab (a:=It.bo ((L3 9).map λ(i:Nat)=>V.int i)) rfl (iz (Kf A F) (λv l J H K I k=>?_) (λJ H I=>?_) _ ⟨A.new 49 0 M _,0,KT,by decide,rfl,rfl,o,?_,.new rfl⟩)⟩))
 ·obtain⟨j,i,y,m,e,c,r,d,g⟩:=I
  subst c;refine cH (f8 e.symm) λlt E b=>?_;subst E;clear e;subst b;exact⟨aX rfl,aY (aB rfl (ab (jc lt) (cF r d (aR (by unfold aj;lia)) λu p=>k _ _ ⟨j.set 49 0 _,i+1,_,lt,rfl,rfl,p,by refine hR (xX lt) ?_;rfl,g.trans (.set rfl)⟩)))⟩
 ·obtain⟨j,i,y,m,e,c,r,d,g⟩:=I
  subst c;cases Md m (qy e);replace d:=yr▸d;exact q _ _ _ r d g
 ·refine((congrArg (λf=>U (AO.dI ar f)) (funext λt=>?_)):U (AO.dI ar _)=_)
  exact(if_neg (by omega)).symm
theorem Cs{F:List bm}{c:Int->Int}{P:PS}(R:AR h A)(hd:A.o 49 0=U (.dI ar (hZ c)))(H:F.length<=1000)
  (q:∀h' A',AR h' A'->A'.o 49 0=U (.dI ar (hZ c))->A'.o 50 0=U (.list ((mq F).map b'))->Fr pC A A'->St.bh G1 (lw n) (c3.body.drop 4) (yp A' F y (U (.ref (A'.R 50 0))) (U (.bool true)) KT KT KT KT KT KT KT) P h'):
  St.bh G1 (lw n) (c3.body.drop 2) (yp A F y KT KT KT KT KT KT KT KT KT) P h:=by
 have l:((mq F).map b').length<=aN:=Z (KS _) (KQ (KQ (M7 _ _) H) (by decide));exact aY (mL rfl (F.length+1) (BC (i:=14) (aX rfl) H (c6 50 0 R l λm a r=>⟨aX rfl,aX rfl,q _ (A.new 50 0 m _) r hd rfl (.new rfl)⟩)))
theorem AL{F:List bm}{c:Int->Int}{P:List (Int×Int)}{C X:Option V}(R:AR h A)(H:A.o 41 0=U (.dI ar λt=>(ai.M.arg t).map V.int))(hd:A.o 49 0=U (.dI ar (hZ c)))(D:A.o 50 0=U (.list (P.map b')))(L:P.length<=1000)
  (q:∀h' A',AR h' A'->A'.o 50 0=U (.list ((f1 c P).map b'))->Fr Iw A A'->A'.R 50 0=A.R 50 0->St.bh G1 (lw n) (Im.drop 3) (yp A' F (U (.int 1)) (U (.ref (A'.R 50 0))) (U (.bool false)) (U (.fl (ae nN))) (U (.int 2)) x9 x10 x X g) Po h'):
  St.bh G1 (lw n) Im (yp A F C (U (.ref (A.R 50 0))) x6 x7 x8 x9 x10 x X g) Po h:=by
 refine⟨aX rfl,aY (mL rfl ((ae ar).length+1) (qK (p:=λt=>(ai.M.arg t).isSome) (l:=ar) (by decide) (λi I acc K E k=>qZ R H ?_) (bz (by decide) ⟨aX rfl,?_⟩)))⟩
 ·have e:((ai.M.arg i).map V.int).isSome=(ai.M.arg i).isSome:=by cases ai.M.arg i<;>rfl
  refine Z e ?_;induction c:(ai.M.arg i).isSome with
  |true=>replace k:=c▸k;exact bW rfl ⟨E,k⟩
  |false=>replace k:=c▸k;exact bH rfl (hR (Lk acc) k)
 refine Z ((rfl:ar.filter (λt=>(ai.M.arg t).isSome)=nN)) ?_;have Q:(oC c P 10 9 4 3).length<=1001:=KQ (tB c P 10 9 4 3) (Lp L);refine⟨(by decide:3<=aN),by decide,by decide,ab (a:=It.bo [.int 0,.int 1,.int 2]) rfl ⟨4,aX rfl,by decide,by decide,ab (a:=It.bo []) rfl ⟨1,aX rfl,by decide,by decide,ab (a:=It.bo [.int 0]) rfl ⟨2,aX rfl,k' (a:=10) (b:=9) (u:=4) (v:=3) (j:=1) (k:=0) (r:=.none) rfl rfl rfl rfl rfl rfl rfl rfl rfl rfl R H hd D (KQ L (by decide)) λh5 w G J s o=>⟨aX rfl,by decide,by decide,ab (a:=It.bo [.int 0,.int 1]) rfl ⟨3,aX rfl,k' (a:=11) (b:=9) (u:=5) (v:=3) (j:=2) (k:=0) (r:=.none) (Z (j6 o rfl) rfl:U (V.ref (A.R 41 0))=U (V.ref (w.R 41 0))) (Z (j6 o rfl) rfl:U (V.ref (A.R 49 0))=U (V.ref (w.R 49 0))) (Z s rfl:U (V.ref (A.R 50 0))=U (V.ref (w.R 50 0))) rfl rfl rfl rfl rfl rfl rfl G ((o 41 0 rfl).1.trans H) ((o 49 0 rfl).1.trans hd) J ((λh=>KQ h (by decide):∀{m:Nat},m<=1000+1->m<=2000) Q) λh6 y M N z S=>?_⟩⟩⟩⟩⟩⟩;have f:=o.trans S;refine⟨aX rfl,k' (a:=11) (b:=10) (u:=5) (v:=4) (j:=2) (k:=1) (r:=.none) (Z (j6 f rfl) rfl:U (V.ref (A.R 41 0))=U (V.ref (y.R 41 0))) (Z (j6 f rfl) rfl:U (V.ref (A.R 49 0))=U (V.ref (y.R 49 0))) (Z z (Z s rfl):U (V.ref (A.R 50 0))=U (V.ref (y.R 50 0))) rfl rfl rfl rfl rfl rfl rfl M ((f 41 0 rfl).1.trans H) ((f 49 0 rfl).1.trans hd) N (KQ (KQ (tB c _ 11 9 5 3) (Lp Q)) (by decide)) λT W R7 p7 B F7=>?_⟩;have d:=f.trans F7;have:=q T W R7 p7 d (B.trans (z.trans s));replace this:=(B.trans (z.trans s))▸(Af (j6 d rfl) (j6 d rfl))▸this;exact this
inductive CS(A:AH)(F:List bm)(c:Int->Int)(W:List (Int×Int))(b x7 x8:Option V)(l:List V)(J:aV)(h:Hp):Prop
 |mk (A':AH) (p P:List (Int×Int)) (s:(Int->Int)×Bool) (x9 x10 x X a:Option V) (e:l=NK b' P) (E:W=p++P) (S:h9 (fR F) c p s) (g:J=yp A' F b (U (.ref (A'.R 50 0))) (U (.bool s.2)) x7 x8 x9 x10 x X a) (R:AR h A') (d:A'.o 49 0=U (.dI ar (hZ s.1))) (r:A'.R 49 0=A.R 49 0) (f:Fr Gb A A')
theorem zg{F:List bm}{c:Int->Int}{W:List (Int×Int)}{K X:Option V}(R:AR h A)(hd:A.o 49 0=U (.dI ar (hZ c)))(M:A.o 50 0=U (.list (W.map b')))(pr:∀p∈W,aj p.1/\aj p.2/\Cl (fR F) p.1 p.2)(st:h9 (fR F) c [] (c,false))
  (q:∀h' A' s x9 x10 x X d,AR h' A'->A'.o 49 0=U (.dI ar (hZ s.1))->h9 (fR F) c W s->Fr Gb A A'->A'.R 49 0=A.R 49 0->St.bh G1 (lw n) (Im.drop 4) (yp A' F K (U (.ref (A'.R 50 0))) (U (.bool s.2)) x7 x8 x9 x10 x X d) Po h'):
  St.bh G1 (lw n) (Im.drop 3) (yp A F K (U (.ref (A.R 50 0))) (U (.bool false)) x7 x8 x9 x10 x X d) Po h:=by
 refine ab (a:=It.c0 (A.R 50 0) 0) (cW R M) (iN (r:=A.R 50 0) (xs:=W.map b') (CS A F c W K x7 x8) (λl J h' I=>?_) (λv l J h' K2 hv I N=>?_) (λJ h' I=>?_) ⟨A,[],W,(c,false),_,_,_,_,_,rfl,rfl,st,rfl,R,hd,rfl,.refl⟩)
 ·obtain⟨A',g,P,s,Q,m,t,u,w,z,E,B,H,b,D,C,f⟩:=I
  have:=b.ip ((f 50 0 rfl).1.trans M);rwa[j6 f rfl] at this
 ·obtain⟨A',g,P,s,Q,m,t,u,w,z,E,B,H,b,D,C,f⟩:=I
  cases P with
  |nil=>cases z
  |cons p P=>
  obtain⟨rfl,rfl⟩:=LR z;subst H;refine cH (pr p (by rw[E];exact Ld _ KX)) λT Z cl=>?_;have S:=B.step T Z cl;have G:W=(g++[p])++P:=by rw[Lj];exact E
  refine⟨rfl,aX rfl,aX rfl,aY (cI b D (rd T) (cI b D (rd Z) ⟨(by decide:2<=aN),rfl,aX rfl,aX rfl,?_⟩))⟩;by_cases e:s.1 p.1=s.1 p.2
  ·simp only[show qf s p=s from if_pos e] at S
   exact po e (N _ _ ⟨A',g++[p],P,s,_,_,_,_,_,rfl,G,S,rfl,b,D,C,f⟩)
  ·simp only[show qf s p=(eZ s.1 (s.1 p.1) (s.1 p.2),true) from if_neg e] at S
   refine my e ⟨aX rfl,cx (uN (i:=13) (j:=0) rfl (uJ (c:=s.1) (o:=s.1 p.1) (nw:=s.1 p.2) (aX rfl) rfl rfl rfl b D λh8 A8 y R8 d8 r8 L=>N _ _ ⟨A8,g++[p],P,_,U (.int p.1),U (.int p.2),U (.int (s.1 p.1)),U (.int (s.1 p.2)),y,rfl,G,S,?_,R8,d8,r8.trans C,f.trans L⟩))⟩;rw[Af (j6 L rfl) r8,j6 L (k:=50) rfl];rfl
 ·obtain⟨A',g,P,s,Q,m,t,u,w,z,E,B,H,b,D,C,f⟩:=I
  cases P with
  |cons=>cases z
  |nil=>
  subst H;rw[Lk] at E;rw[<-E] at B;exact q _ _ _ _ _ _ _ _ b D B f C
inductive CW(A:AH)(F:List bm)(m:Nat)(J:aV)(h:Hp):Prop
 |mk (A':AH) (c:Int->Int) (b:Bool) (P:List (Int×Int)) (e x7 x8 x9 x10 x X a:Option V) (E:J=yp A' F e (U (.ref (A'.R 50 0))) (U (.bool b)) x7 x8 x9 x10 x X a) (R:AR h A') (f:Fr pC A A') (d:A'.o 49 0=U (.dI ar (hZ c))) (p:A'.o 50 0=U (.list (P.map b'))) (l:P.length<=1000) (k:iw F c b P) (M:m=if b=true then tT c+1 else 0)
theorem A8(R:AR h A)(l:A.o 41 0=U (.dI ar λt=>(ai.M.arg t).map V.int)){F:List bm}(N:∀f∈F,aj f.x/\aj f.y)(H:F.length<=1000)(q:∀h' A' c,AR h' A'->A'.o 49 0=U (.dI ar (hZ c))->FW F c->Fr pC A A'->Q (.ref (A'.R 49 0)) h'):
  lw (n+1) "_law_closed" [.fl (ae ar),.ref (A.R 41 0),.fl (F.map dL)] Q h:=by
 refine ab rN ⟨rfl,CB R λh2 A2 y o p u=>Cs o p H λh3 v w x z B=>h8 (CW A F) (λm J h4 K I C=>?_) ⟨v,_,true,mq F,_,_,_,_,_,_,_,_,rfl,w,u.trans B,x,z,KQ (M7 _ _) H,.start,rfl⟩⟩;obtain⟨E,c,b,P,x4,x7,x8,x9,x10,X,G,L,T,r,g,D,p4,W,d,em⟩:=I;subst T;refine ab (a:=V.bool b) rfl (ab (a:=b) rfl ?_);induction b with
 |false=>exact bH rfl ⟨_,_,.refl,q _ _ _ r D d.cU g⟩
 |true=>
  refine bW rfl (AL r ((g 41 0 rfl).1.trans l) D p4 W λh5 A5 R5 p5 i r5=>zg R5 ((i 49 0 rfl).1.trans D) p5 (d.HN N) (.start d) λh6 j s y9 aa ac af ag R6 d6 S F6 r6=>aY (c6 50 0 (xs:=[]) R6 (Lf _) λM h9 R9=>⟨aX rfl,C (if s.2=true then tT s.1+1 else 0) (Z em (Z (if_pos rfl) ?_)) _ _ ⟨j.new 50 0 M _,s.1,s.2,[],_,_,_,_,_,_,_,_,rfl,R9,g.trans ((i.bT λk e=>(t7 k e).2).trans ((F6.bT λk e=>(t7 k e).1).trans (.new rfl)):Fr pC E (j.new 50 0 M (.list []))),d6,rfl,Lf _,d.next S,rfl⟩⟩));by_cases e:s.2=true;·exact Z (if_pos e) (PZ (S.lt e))
  ·exact Z (if_neg e) (M4 _)
theorem D2{j:Nat}{P:PS}(e:(J[j]?).join=U (.fl xs))(q:∃n,dr (Tg.wp G1 C t) (St.bh G1 C b) n (.bo xs) J (Fl.seq (n6 (St.bh G1 C r) P) P) h):St.bh G1 C (.for t (.var j) b::r) J P h:=ab e q
theorem eV(q:ai.Ex.wp G1 C e J (oo (ai.Ex.wp G1 C i J) (GS Q)) h):ai.Ex.wp G1 C (.sub e i) J Q h:=q
noncomputable def kJ(F:List bm):List (Int×Int):=F.filterMap λf=>if f.je=true then KT else U (f.x,f.y)
theorem jq{F:List bm}{p:Int×Int}:p∈kJ F↔∃m,tj F m p.1 p.2:=by
 unfold kJ;refine iR NM ?_;constructor
 ·rintro q;refine aD q λb a H=>?_;obtain⟨t,x,y,m⟩:=b
  induction t with
  |true=>exact al H
  |false=>(replace H:=KP H;clear q;subst H);exact⟨m,a⟩
 ·rintro Q;refine cY Q λm h=>?_
  exact⟨_,h,rfl⟩
theorem xk(F:List bm):F.filterMap (λf=>if f.je=true then KT else U (b' (f.x,f.y)))=(kJ F).map b':=by
 induction F with
 |nil=>rfl
 |cons f F i=>
  unfold kJ at i⊢;simp only[Lu,Lu,i];by_cases c:f.je=true;·exact Z (if_pos c) (Z (if_pos c) rfl)
  ·refine Z (if_neg c) (Z (if_neg c) ?_);rfl
theorem xu{i:Nat}{F:List bm}{P:List V->Hp->Prop}(H:i<J.length)(b:F.length<=1000)(q:P ((kJ F).map b') h):
  iter (w7 (λv=>ai.Ex.Eh G1 C (U (.bV .eq (.sub (.var i) (.aE (.int 0))) (.aE (.str "part")))) (J.set i (U v))) (λv=>ai.Ex.wp G1 C (.aA [.sub (.var i) (.aE (.int 1)),.sub (.var i) (.aE (.int 2))]) (J.set i (U v)))) (F.length+1) (.bo (F.map dL)) [] P h:=by
 refine comp_map (f:=λf=>if f.je=true then KT else U (b' (f.x,f.y))) F [] (Z NL (Z (ND _) (KQ b (by decide)))) (λf d acc K A k=>?_) (by exact Z (xk _) q);have g:∀v,((J.set i (U v))[i]?).join=U v:=λv=>by refine Z (hh H) ?_;rfl
 refine ab (g _) (aS (ab (a:=V.str (if f.je=true then "tie" else "part")) rfl (aS (AT ?_))));induction c:f.je with
 |false=>replace k:=c▸k;exact bW rfl (ab (g _) (aS (ab (a:=V.int f.x) rfl (ab (g _) (aS (ab (a:=V.int f.y) rfl ⟨(by decide:2<=aN),A,k⟩))))))
 |true=>replace k:=c▸k;refine bH rfl ?_;simpa using k
noncomputable def jW(F:List bm):List (Int×Int):=(7,8)::kJ F
theorem wf{i j:Nat}{F:List bm}{P:PS}(L:et A cs S)(R:AR h A)(f:F.length<=1000)(H:i<J.length)(b:j<J.length)(c:0≠i)(I:1≠i)(e:(J[0]?).join=U (.ref (A.R 42 0)))(E:(J[1]?).join=U (.fl (F.map dL)))
  (q:St.bh G1 C r (J.set i (U (.fl ((jW F).map b')))) P h):
  St.bh G1 C (.a8 (.var i) (.list [.aA [.sub (.sub (.var 0) (.aE (.str "some"))) (.aE (.int 4)),.sub (.sub (.var 0) (.aE (.str "some"))) (.aE (.int 5))]])::
   .a8 (.var i) (.hQ .add (.var i) (.comp (.aA [.sub (.var j) (.aE (.int 1)),.sub (.var j) (.aE (.int 2))]) j (.var 1) (U (.bV .eq (.sub (.var j) (.aE (.int 0))) (.aE (.str "part"))))))::r) J P h:=by
 refine ab e (aS (dm R L.bI (i:="some") rfl (aS (ab (a:=V.int 7) rfl (ab e (aS (dm R L.bI (i:="some") rfl (aS ?_))))))));refine ab (a:=V.int 8) rfl ⟨(by decide:2<=aN),bz (by refine(?_ :1<=aN);decide) ⟨H,?_⟩⟩;refine aY (er (ab (a:=V.fl [b' (7,8)]) (by refine Z (hh H) ?_;rfl) ?_));refine mL (xs:=F.map dL) (Z (d6 I) E) (F.length+1) (xu (i:=j) (Z Mt b) f ?_);have l:((kJ F).map b').length<=1000:=by refine Z (KS _) ?_;exact KQ (M7 _ _) f
 refine bz (KQ l (by decide)) (AZ (by refine(?_ :1<=aN);decide) (KQ l (by decide)) ?_ ⟨by refine Z Mt ?_;exact H,?_⟩);·refine Z KW ?_;exact KQ (L2 l 1) (by decide)
 ·exact Z (S2 _) q
noncomputable def I1(A:AH)(F:List bm)(x y z:Option V):aV:=[U (.ref (A.R 42 0)),U (.fl (F.map dL)),U (.ref (A.R 49 0)),U (.fl ((jW F).map b')),x,y,z]
noncomputable def Jx(A:AH)(F:List bm)(a b:Int)(s:List Int)(x y z:Option V):aV:=[U (.ref (A.R 42 0)),U (.fl (F.map dL)),U (.ref (A.R 49 0)),U (.int a),U (.int b),U (.fl (ae s)),U (.fl ((jW F).map b')),x,y,z]
theorem qC{F:List bm}(n:∀f∈F,aj f.x/\aj f.y)(p:Int×Int)(m:p∈jW F):aj p.1/\aj p.2:=
 (KZ.mp m).elim (λe=>Z e ⟨(by decide:aj 7),(by decide:aj 8)⟩) λm=>(jq.mp m).elim λ_ m=>n _ m
theorem Ci(R:AR h A)(L:et A cs S){F:List bm}{c:Int->Int}(a:F.length<=1000)(N:∀f∈F,aj f.x/\aj f.y)(hd:A.o 49 0=U (.dI ar (hZ c)))(q:(∃p∈jW F,c p.1=c p.2)->Q (.bool true) h)(b:(∀p∈jW F,c p.1≠c p.2)->Q (.bool false) h):
  lw (n+1) "_law_clashes" [.ref (A.R 42 0),.fl (F.map dL),.ref (A.R 49 0)] Q h:=by
 have r:=qC N;refine ab pv ⟨rfl,wf L R a (aX rfl) (aX rfl) (by decide) (by decide) rfl rfl (D2 (xs:=(jW F).map b') rfl (sv (enc:=b') (L:=jW F) (λP _=>∀p∈P,c p.1≠c p.2) (I1 A F) (λP p B x y z K e H k=>?_) (λx y z H=>⟨_,_,.refl,b H⟩) λ_ m=>(nomatch m)))⟩;have mp:p∈jW F:=Z e (Ld _ KX);refine⟨rfl,aX rfl,aX rfl,cI R hd (rd (r p mp).1) (cI R hd (rd (r p mp).2) ?_)⟩;by_cases d:c p.1=c p.2;·exact kl d ⟨_,_,.refl,q ⟨p,mp,d⟩⟩
 ·exact js d (k _ _ _ λx m=>(K8.mp m).elim (H x) λm=>KU.mp m▸d)
theorem oa:∀a b:List Int,V.kz (ae a) (ae b)=decide (a=b)
 |[],[]=>rfl
 |[],_::_=>rfl
 |_::_,[]=>rfl
 |x::a,y::b=>by refine(?_ :((x==y)&&V.kz (ae a) (ae b))=_);rw[oa a b,P5,LL,beq_iff_eq,decide_eq_true_iff,decide_eq_true_iff,PA]
theorem mV(a:List Int)(k:Nat):(V.fl (ae a)).hi (k+2)=true:=by refine(?_ :(ae a).all (V.hi (k+1))=true);simp only[L6];intro x h;refine aD (LG.mp h) λi _ e=>?_;clear h;subst e;rfl
theorem wY(a b:List Int):gI h .eq (.fl (ae a)) (.fl (ae b))=U (decide (a=b)):=by refine(?_ :(if((V.fl (ae a)).hi 8&&(V.fl (ae b)).hi 8)=true then U (V.kz (ae a) (ae b)) else KT)=_);simp only[mV a 6,mV b 6,oa];rfl
theorem CX(a b:List Int):gI h .ne (.fl (ae a)) (.fl (ae b))=U (!decide (a=b)):=by refine((Z (show eqv h (.fl (ae a)) (.fl (ae b))=U (decide (a=b)) from wY a b) ?_):(eqv h (.fl (ae a)) (.fl (ae b))).map (!·)=_);rfl
theorem yW(a b:Int):cE [a,b]=if a<=b then[a,b] else[b,a]:=by
 refine(?_ :(if decide (a<=b)=true then[a,b] else[b,a])=_);by_cases c:a<=b;·exact Z (if_pos c) (Z (if_pos (decide_eq_true c)) rfl)
 ·exact Z (if_neg c) (Z (if_neg (by exact Z (decide_eq_false c) L9)) rfl)
theorem vE(a b:Int):cE [a,b]=cE [b,a]:=by
 simp only[yW,yW];by_cases c:a<=b<;>by_cases d:b<=a;·exact Z (if_pos c) (Z (if_pos d) (Z (Int.le_antisymm c d) rfl))
 ·exact Z (if_pos c) (Z (if_neg d) rfl)
 ·exact Z (if_neg c) (Z (if_pos d) rfl)
 ·lia
theorem BB{a b:Int}(n:a≠b):∃x y,cE [a,b]=[x,y]/\x≠y:=by
 refine Z (yW _ _) ?_;split;·exact⟨_,_,rfl,n⟩
 ·exact⟨_,_,rfl,n.symm⟩
theorem Az(R:AR h A)(L:et A cs S){F:List bm}{c:Int->Int}(g:F.length<=1000)(N:∀f∈F,aj f.x/\aj f.y)(hd:A.o 49 0=U (.dI ar (hZ c)))(nx:aj x)(i:aj y)(E:c x≠c y)(G:∃p∈jW F,cE [c p.1,c p.2]=cE [c x,c y])(q:Q (.bool true) h):
  lw (n+1) "_law_is_apart" [.ref (A.R 42 0),.fl (F.map dL),.ref (A.R 49 0),.int x,.int y] Q h:=by
 have r:=qC N;refine ab oj ⟨rfl,cI R hd (rd nx) (cI R hd (rd i) (bz (by refine(?_ :2<=aN);decide) ?_))⟩;refine ax (hj (l:=[c x,c y]) (by refine(?_ :2<64);decide) ⟨aX rfl,?_⟩);refine wf L R g (aX rfl) (aX rfl) (by decide) (by decide) rfl rfl (D2 (xs:=(jW F).map b') rfl (sv (enc:=b') (L:=jW F) (λ_ P=>∃p∈P,cE [c p.1,c p.2]=cE [c x,c y]) (Jx A F x y (cE [c x,c y])) (λm p P _ _ _ K e H k=>?_) (λ_ _ _ H=>H.elim λp w=>nomatch w.1) G));have mp:p∈jW F:=Z e (Ld _ KX);refine⟨rfl,aX rfl,aX rfl,cI R hd (rd (r p mp).1) (cI R hd (rd (r p mp).2) (bz (by decide:2<=aN) (ax (hj (l:=[c p.1,c p.2]) (by decide:2<64) (aB rfl (ab (wY _ _) ?_))))))⟩;by_cases d:cE [c p.1,c p.2]=cE [c x,c y];·exact bW (decide_eq_true d) (eB (BB E) λa b e B=>Z e (my (a:=a) (b:=b) B ⟨_,_,.refl,q⟩))
 ·exact bH (decide_eq_false d) (k _ _ _ (H.elim λj w=>⟨j,(KZ.mp w.1).resolve_left λe=>d (hR e w.2),w.2⟩))
theorem wK:∀{l:List Int},l.Pairwise (·<·)->cE l=l
 |[],_=>rfl
 |a::r,p=>by
  have p:=Ml.mp p;refine((Z (wK p.2) ?_):jU _ a (cE r)=_);induction r using LP with
  |nil=>rfl
  |cons b r=>exact if_pos (decide_eq_true (QZ (p.1 b KX)))
theorem AY(F:List bm)(l:List Int):F.filterMap (λf=>if f.m∈l then U (dL f) else KT)=(keep F l).map dL:=by
 induction F with
 |nil=>rfl
 |cons f F i=>
  unfold keep at i⊢;simp only[Lu,MV,i];by_cases c:f.m∈l;·refine Z (if_pos c) (Z (if_pos (decide_eq_true c)) ?_);rfl
  ·exact Z (if_neg c) (Z (if_neg (by exact Z (decide_eq_false c) L9)) rfl)
theorem w_call(q:ai.Ex.bh G1 C es J (Bj C f Q) h):ai.Ex.wp G1 C (.call f es) J Q h:=q
theorem BU{l:List Int}{i:Nat}(p:l.Pairwise (·<·))(h:i<l.length):l[i]∉l.take i:=by have n:=kM p;intro m;rw[(by simp only[<-ME h,QU]:l=l.take i++l[i]::l.drop (i+1))] at n;exact(Mj.mp n).2.2 _ m _ KX rfl
theorem i2(k:Nat):It.start h (.yC (k:Int))=U (.bo ((L3 k).map λ(i:Nat)=>V.int i)):=rfl
theorem yw(k:Nat)(h:p4 k=true):pC k=true:=by
 unfold p4 at h;have H:=((LL ..).mp h).2;have c:∀j,LS j 49=false->Ly k j=false:=λj a=>by
  induction q:Ly k j with
  |false=>rfl
  |true=>replace H:=a▸(Mc q)▸H;exact aK H
 unfold pC;refine Z (c 49 rfl) (Z (c 50 rfl) ?_);rfl
theorem v6(R:AR h A)(L:et A cs S){F:List bm}(W:S.a0.flatten=F)(w:F.length<=1000)(fn:∀f∈F,aj f.x/\aj f.y){am:List Int}(nx:aj x)(N:aj y)(G:fZ F am l x y t)
  (q:∀h' A',AR h' A'->Fr pC A A'->Q (.bool true) h'):lw (n+2) "_law_is_good" [.ref (A.R 42 0),.fl (ae l),.fl (ae am),.int x,.int y,.int t] Q h:=by
 have X:(ae l).length<=19:=Z (bb _) G.n;refine ab oR ⟨rfl,(hj (l:=l) (K6 G.n (by decide)) (ab (CX l (cE l)) (Z (wK G.s) (Z (decide_eq_true rfl) (bH rfl ⟨KQ X (by decide),(LO _:(0:Int)<=((ae l).length:Int)),MI (MS.mpr X) (by decide),ab (i2 (ae l).length) (Z (bb _) ?_)⟩)))))⟩;refine iz (λr J h'=>h'=h/\∃i z,r=((L3 l.length).map λ(i:Nat)=>V.int i).drop i/\J=[U (.ref (A.R 42 0)),U (.fl (ae l)),U (.fl (ae am)),U (.int x),U (.int y),U (.int t),z,KT,KT,KT]) ?_ ?_ _ ⟨rfl,0,_,rfl,rfl⟩
 ·rintro v r J h' K ⟨rfl,i,z,e,rfl⟩ k
  refine cH (f8 e.symm) λlt E d=>?_;subst E;clear e;subst d;have ei:jr (ae l) (i:Int)=U (.int l[i]):=by refine Z (hU _ _) ?_;unfold ae;refine Z (ML) (Z (L8 lt) ?_);rfl
  refine⟨aX rfl,ab ei (aB rfl (ab (show gI h' .eY (.int l[i]) (.fl (ae am))=U (!decide (l[i]∈am)) from by show(kx _ _).map _=_;refine Z (hK _ _) ?_;rfl) ?_))⟩;refine Z (decide_eq_true (G.k _ (NA lt))) (bH rfl (ab ei ⟨LO i,fT (KQ (LJ lt) (KQ G.n (by decide))),Z (Mz _) (Z (mU _ _) (bz (Z (bb _) (Z MH (KQ (R9 _ _) (KQ G.n (by decide))))) ?_))⟩));exact ab (hK _ _:gI h' .dK (.int l[i]) (.fl (ae (l.take i)))=U (decide (l[i]∈l.take i))) (Z (decide_eq_false (BU G.s lt)) (bH rfl (k _ _ ⟨rfl,i+1,_,rfl,rfl⟩)))
 ·rintro J h' ⟨rfl,i,z,e,rfl⟩
  refine aY (sV R L (Z W w) (Z W (ab (a:=It.bo (F.map dL)) rfl ⟨F.length+1,comp_map (f:=λf=>if f.m∈l then U (dL f) else KT) F [] (Z NL (Z (ND _) (KQ w (by decide)))) (λf hf acc K ha k=>?_) ?_⟩)))
  ·refine ab (hK _ _:gI h' .dK (.int f.m) (.fl (ae l))=U (decide (f.m∈l))) ?_
   by_cases c:f.m∈l
   ·replace k:=(if_pos c)▸k
    exact bW (decide_eq_true c) ⟨ha,k⟩
   ·replace k:=(if_neg c)▸k
    exact bH (decide_eq_false c) (by simpa using k)
  ·rw[OS,AY]
   have lk:(keep F l).length<=1000:=KQ (Nj _ _) w;have D:∀f∈keep F l,aj f.x/\aj f.y:=λf m=>fn f (eM.mp m).1;refine bz (by rw[KS];exact KQ lk (by decide)) ⟨aX rfl,aY (w_call (dm R L.bI (i:="some") rfl (dm R L.bI (i:="inner") rfl (aB rfl (ax (A8 R L.gV D lk λh1 A1 c o d1 C I=>⟨aX rfl,?_⟩))))))⟩;have s:Fr p4 A A1:=I.bT yw;refine hR ((cL s rfl:A1.R 42 0=A.R 42 0)) ?_;by_cases T:t=1
   ·refine kl (a:=t) (b:=1) T ?_
    have e:c x=c y:=(C x y nx N).mpr (G.e T);exact cI o d1 (rd nx) (cI o d1 (rd N) (ab (((Z (show gI h1 .eq (.int (c x)) (.int (c y))=U (decide (c x=c y)) from m7 _ _) (Z (decide_eq_true e) rfl)):gI h1 .eq (.int (c x)) (.int (c y))=U true)) ⟨_,_,.refl,q _ _ o I⟩))
   ·refine ay (G.a T) λB M=>aD B λp u H=>js (a:=t) (b:=1) T ?_
    have mp:p∈jW (keep F l):=by
     clear H;rcases u with rfl |⟨m,h⟩
     ·exact KX
     ·exact K1 _ (jq.mpr ⟨m,h⟩)
    have P:aj p.1/\aj p.2:=by
     clear mp H;rcases u with rfl |⟨m,h⟩
     ·exact⟨by decide,by decide⟩
     ·exact D _ h
    exact Az o (L.fr s) lk D d1 nx N (λe=>M ((C x y nx N).mp e)) ⟨p,mp,K4 H (λg=>ay g λa b=>Z ((C x _ nx P.1).mpr a) (Z ((C y _ N P.2).mpr b) rfl)) λj=>ay j λa b=>Z ((C x _ nx P.2).mpr a) (Z ((C y _ N P.1).mpr b) (vE _ _))⟩ ⟨_,_,.refl,q _ _ o I⟩
structure fv(A A':AH):Prop where
 a:A'.R 40 0=A.R 40 0
 b:A'.R 41 0=A.R 41 0
 c:A'.R 42 0=A.R 42 0
theorem fv.refl:fv A A:=⟨rfl,rfl,rfl⟩
theorem fv.trans{B C:AH}(x:fv A B)(y:fv B C):fv A C:=⟨y.a.trans x.a,y.b.trans x.b,y.c.trans x.c⟩
theorem fv.of{B:AH}(f:Fr p4 A B):fv A B:=⟨cL f rfl,cL f rfl,cL f rfl⟩
noncomputable def gY(S:Ls)(l:List (Int×Int))(am:List Int)(h:Nat):Ls:={S with tl:=l.foldl (λtl e=>aH tl e.1 (U (e.2,am,h))) S.tl}
structure kc(S S':Ls)(c:Int->Int)(am:List Int)(h:Nat):Prop where
 eq:∀key p,S'.eq key=U p->S.eq key=U p\/∃j k:Nat,k<j/\j<9/\key=[(j:Int),(k:Int)]/\c (3+j)=c (3+k)/\p=(am,h)
 b5:S'={S with eq:=S'.eq}
theorem xr:∀j:Nat,j<9->∀k:Nat,k<j->[(j:Int),(k:Int)]∈gD:=by decide
theorem Fr.KJ{t:Int}{x:AO}:Fr pH A (A.set 47 t x):=.set rfl
theorem vM(S:Ls)(l:List (Int×Int))(e:Int×Int)(am:List Int)(h:Nat):gY S (l++[e]) am h={gY S l am h with tl:=aH (gY S l am h).tl e.1 (U (e.2,am,h))}:=by unfold gY;refine Z Nk ?_;rfl
theorem Ab{S:Ls}{am:List Int}{h:Nat}{t:Int}:∀{l:List (Int×Int)},t∉l.map (·.1)->(gY S l am h).tl t=S.tl t:=by
 have:∀(l:List (Int×Int)) (f:Int->Option (Int×List Int×Nat)),t∉l.map (·.1)->l.foldl (λT e=>aH T e.1 (U (e.2,am,h))) f t=f t:=by
  intro l;induction l with
  |nil=>intro f _;rfl
  |cons e l i=>intro f m;simp only[LC,KZ,not_or] at m;exact(i _ m.2).trans (ai.M.aI _ _ m.1)
 exact λ{l} m=>this l S.tl m
theorem vt{S:Ls}{am:List Int}{p:Int×List Int×Nat}:∀{l:List (Int×Int)},(gY S l am H).tl t=U p->S.tl t=U p\/∃e∈l,e.1=t/\p=(e.2,am,H):=by
 have:∀(l:List (Int×Int)) (f:Int->Option (Int×List Int×Nat)),l.foldl (λT e=>aH T e.1 (U (e.2,am,H))) f t=U p->f t=U p\/∃e∈l,e.1=t/\p=(e.2,am,H):=by
  intro l;induction l with
  |nil=>intro f h;exact .inl h
  |cons e l i=>
   intro f h;refine K4 (i _ h) (λk=>?_) λr=>aD r λE m k=>.inr ⟨E,K1 _ m,k⟩
   ·have k:aH f e.1 (U (e.2,am,H)) t=U p:=k
    by_cases c:t=e.1
    ·rw[c,ai.M.aP] at k
     (replace k:=KP k;clear h i;subst k)
     exact .inr ⟨e,KX,c.symm,rfl⟩
    ·replace k:=(ai.M.aI _ _ c)▸k;exact .inl k
 exact λ{l} h=>this l S.tl h
theorem et.HB(L:et A cs S){f:Int->Option (Int×List Int×Nat)}{g:Int->Option V}(e:g=λt=>(f t).map ig):et (A.set 47 S.g (.dI fw g)) cs {S with tl:=f}:=
 ⟨L.cl,L.nA,L.gV,L.bI,L.a0,L.lf,L.wd,by refine Z e ?_;exact if_pos ⟨rfl,rfl⟩,L.eq⟩
theorem et.H7(L:et A cs S){f:List Int->Option (List Int×Nat)}{g:List Int->Option V}(e:g=λt=>(f t).map jJ):et (A.set 48 S.g (.dP gD g)) cs {S with eq:=f}:=
 ⟨L.cl,L.nA,L.gV,L.bI,L.a0,L.lf,L.wd,L.tl,Z e (if_pos ⟨rfl,rfl⟩)⟩
theorem isSome_map{a b:Type}{f:a->b}{o:Option a}:(o.map f).isSome=o.isSome:=by induction o<;>rfl
theorem wg{f:Int->Option (Int×List Int×Nat)}(v:Int×List Int×Nat):ft (λx=>(f x).map ig) t (U (ig v))=λx=>(aH f t (U v) x).map ig:=dz (U v)
noncomputable def Fw(A:AH)(am:List Int)(m:Nat)(x x6 x7 x8 x9:Option V):aV:=[U (.ref (A.R 42 0)),U Me,U (.ref (A.R 49 0)),U (.fl (ae am)),U (.int (m:Nat)),x,x6,x7,x8,x9]
structure NS(A0 A:AH)(h:Hp)(cs:List Int)(M:Hs)(c:Int->Int)(S:Ls):Prop where
 R:AR h A
 H:ah A (M.eH [])
 L:et A cs S
 s:fv A0 A
 d:A.o 49 0=U (.dI ar (hZ c))
inductive NT(A0:AH)(cs:List Int)(M:Hs)(c:Int->Int)(S:Ls)(am:List Int)(m:Nat)(out:List (Int×Int))(l:List V)(J:aV)(h:Hp):Prop
 |mk (A:AH) (L b:List (Int×Int)) (x x6:Option V) (e:l=b.map uS) (E:out=L++b) (a:J=Fw A am m x x6 KT KT KT) (N:NS A0 A h cs M c (gY S L am m))
inductive NI(A0:AH)(cs:List Int)(M:Hs)(c:Int->Int)(S:Ls)(am:List Int)(m k:Nat)(x x6:Option V)(g:Option V->Prop)(l:List V)(J:aV)(h:Hp):Prop
 |mk (A:AH) (j:Nat) (S':Ls) (x8 x9:Option V) (e:l=((L3 k).map λ(i:Nat)=>V.int i).drop j) (a:J=Fw A am m x x6 (U (.fl (ae ar))) x8 x9) (G:g x8) (N:NS A0 A h cs M c S') (E:kc S S' c am m)
theorem kc.dZ{S:Ls}{c:Int->Int}{am:List Int}{m i j:Nat}(N:kc S S' c am m)(l:i<j)(L:j<9)(e:c (3+(j:Int))=c (3+(i:Int))):kc S {S' with eq:=aH S'.eq [(j:Int),(i:Int)] (U (am,m))} c am m:=by
 refine⟨λkey p h=>?_,Z N.b5 rfl⟩;have h:aH S'.eq [(j:Int),(i:Int)] (U (am,m)) key=U p:=h;by_cases C:key=[(j:Int),(i:Int)]
 ·rw[C,ai.M.aP] at h
  obtain rfl:=KP h;exact .inr ⟨j,i,l,L,C,e,rfl⟩
 ·rw[ai.M.aI _ _ C] at h
  exact N.eq key p h
theorem ye{j:Nat}(h:j<9):aj (3+(j:Int)):=by unfold aj;lia
noncomputable def JB:List St:=match gN.body.drop 3 with
 |.for _ _ [.for _ _ b]::_=>b
 |_=>[]
theorem vp{c:Int->Int}{am:List Int}{i j:Nat}{P:PS}(N:NS A0 A h cs M c S')(E:kc S S' c am m)(L:i<j)(l:j<9)
  (q:∀h' A' S',NS A0 A' h' cs M c S'->kc S S' c am m->P .next (Fw A' am m x x6 (U (.fl (ae ar))) (U (.int j)) (U (.int i))) h'):
  St.bh G1 (lw n) JB (Fw A am m x x6 (U (.fl (ae ar))) (U (.int j)) (U (.int i))) P h:=by
 refine ab (jc l) (cI N.R N.d (rd (ye l)) (ab (jc (Mx L l)) (cI N.R N.d (rd (ye (Mx L l))) ?_)));by_cases C:c (3+(j:Int))=c (3+(i:Int))
 ·refine kl C ⟨(by decide:2<=aN),dm N.R N.L.bI (i:="equal") rfl (Ao N.R N.L.eq (i:=[(j:Int),(i:Int)]) rfl (Z isSome_map ?_))⟩
  induction H:(S'.eq [(j:Int),(i:Int)]).isSome with
  |true=>exact bH rfl (q _ _ _ N E)
  |false=>exact bW rfl ⟨(by decide:2<=aN),dm N.R N.L.bI (i:="equal") rfl ⟨(by decide:2<=aN),oB N.R N.L.eq (i:=[(j:Int),(i:Int)]) rfl (xr j l i L) λa r=>q _ (A.set 48 S'.g _) _ ⟨r,N.H.r3 (.set rfl),N.L.H7 (e6 (f:=S'.eq) (e:=jJ) (t:=[(j:Int),(i:Int)]) (U (am,m))),⟨N.s.a,N.s.b,N.s.c⟩,N.d⟩ (E.dZ L l C)⟩⟩
 ·exact js C (q _ _ _ N E)
theorem zJ{c:Int->Int}{am:List Int}{X:Option V}{P:PS}(N:NS A0 A h cs M c S)(q:∀h' A' S' J,NS A0 A' h' cs M c S'->kc S S' c am m->P (.ret (.bool true)) J h'):
  St.bh G1 (lw n) (gN.body.drop 2) (Fw A am m X x6 KT KT KT) P h:=by
 refine aY (dm N.R N.L.bI (i:="some") rfl ⟨aX rfl,(by decide:9<=aN),by decide,by decide,ab (i2 9) (iz (NI A0 cs M c S am m 9 X x6 λ_=>True) (λv l J H K I k=>?_) (λJ H I=>?_) _ ⟨A,0,S,_,_,rfl,rfl,trivial,N,λ_ _ h=>.inl h,rfl⟩)⟩)
 ·obtain⟨u,j,w,x8,x9,e,f,g,o,p⟩:=I
  subst f;refine cH (f8 e.symm) λlt E a=>?_;subst E;clear e;subst a;refine⟨aX rfl,LO j,MS.mpr (KQ (LJ lt) (by decide)),ab (i2 j) (iz (NI A0 cs M c S am m j X x6 λx=>x=U (.int j)) (λv l J B R r C=>?_) (λJ B r=>?_) _ ⟨u,0,w,_,_,rfl,rfl,rfl,o,p⟩)⟩
  ·obtain⟨y,i,z,x8,x9,e,f,g,s,t⟩:=r
   subst g;subst f;refine cH (f8 e.symm) λL b d=>?_;subst b;clear e;subst d;exact⟨aX rfl,vp s t L lt λT D F G Q=>C _ _ ⟨D,i+1,F,_,_,rfl,rfl,rfl,G,Q⟩⟩
  ·obtain⟨y,i,z,x8,x9,e,f,g,s,t⟩:=r
   exact k _ _ ⟨y,j+1,z,x8,x9,rfl,f,trivial,s,t⟩
 ·obtain⟨u,j,w,x8,x9,e,f,g,o,p⟩:=I
  exact q _ _ _ _ o p
theorem vH{c:Int->Int}{am:List Int}{P:PS}{out:List (Int×Int)}(N:NS A0 A h cs M c S)(H:BH M out)(p:∀t∈M.a4,t∈fw/\(S.wd t).isSome=true)(T:∀t∈M.a4,M.a7 t≠KT->S.tl t=KT)
  (q:∀h' A' x x6,NS A0 A' h' cs M c (gY S out am m)->P .next (Fw A' am m x x6 KT KT KT) h'):
  ∃k,dr (λv J Q h=>Tg.wp G1 (lw n) (.aA [.var 5,.var 6]) v J Q h) (λJ Q h=>St.bh G1 (lw n) [.cG (.or [.bV .eY (.var 5) (.sub (.var 0) (.aE (.str "watched"))),.bV .dK (.var 5) (.sub (.var 0) (.aE (.str "told")))]) [.ret (.aE (.bool false))] [],
   .a8 (.sub (.sub (.var 0) (.aE (.str "told"))) (.var 5)) (.aA [.var 6,.var 3,.var 4])] J Q h) k (.bo (out.map uS)) (Fw A am m x x6 KT KT KT) P h:=by
 refine iz (NT A0 cs M c S am m out) (λv l J s K I k=>?_) (λJ s I=>?_) _ ⟨A,[],out,_,_,rfl,rfl,rfl,N⟩
 ·obtain⟨j,L,b,x,x6,d,E,g,a⟩:=I
  subst g;induction b using LP with
  |nil=>cases d
  |cons e b=>
  obtain⟨rfl,rfl⟩:=LR d;refine ay (H.2 e (Z E (Ld _ KX))) λo r=>aD r λy C z=>ay (p _ o) λu w=>?_;have D:=H.1;simp only[E,Lm,LC] at D;exact⟨rfl,aX rfl,aX rfl,dm a.R a.L.bI (i:="watched") rfl (fS a.R a.L.wd (Z isSome_map (Z (show((gY S L am m).wd e.1).isSome=true from w) (bH rfl (dm a.R a.L.bI (i:="told") rfl (qZ a.R a.L.tl (Z ((Ab (λm=>(Mj.mp D).2.2 _ m _ KX rfl:e.1∉L.map (·.1))).trans (T _ o (by rw[C];exact λe=>nomatch e)):(gY S L am m).tl e.1=KT) (bH rfl (aY ⟨(by decide:3<=aN),dm a.R a.L.bI (i:="told") rfl (cF a.R a.L.tl u λB R=>k _ _ ⟨j.set 47 S.g _,L++[e],b,_,_,rfl,by rw[Lj];exact E,rfl,R,a.H.r3 (.set rfl),by simp only[vM];exact a.L.HB (wg (f:=(gY S L am m).tl) (t:=e.1) (e.2,am,m)),⟨a.s.a,a.s.b,a.s.c⟩,a.d⟩)⟩)))))))))⟩
 ·obtain⟨j,L,b,x,x6,d,E,g,a⟩:=I
  subst g;induction b using LP with
  |cons=>cases d
  |nil=>
  rw[Lk] at E;subst E;exact q _ _ _ _ a
theorem kF(R:AR h A)(H:ah A M)(L:et A cs S){c:Int->Int}{am:List Int}(hd:A.o 49 0=U (.dI ar (hZ c)))(b:∀t∈M.a4,t∈fw/\(S.wd t).isSome=true)(T:∀t∈M.a4,M.a7 t≠KT->S.tl t=KT)(e:S.a0.length<=1000)
  (q:∀h' A' out S',AR h' A'->ah A' (M.eH [])->et A' cs S'->fv A A'->BH M out->kc (gY S out am S.a0.length) S' c am S.a0.length->Q (.bool true) h'):
  lw (n+2) "_law_noted" [.ref (A.R 42 0),Me,.ref (A.R 49 0),.fl (ae am)] Q h:=by
 have l:(aO A S.a0.length).length=S.a0.length:=by unfold aO;(refine Z (KS _) ?_;exact Z L0 rfl)
 refine ab sg ⟨rfl,dm R L.bI (i:="levels") rfl (cD R L.a0 ⟨by refine Z l ?_;exact KQ e (by decide),⟨aX rfl,?_⟩⟩)⟩;refine Z l ?_;refine bX R H rfl sA (ax (B0 R H (λt m=>(b t m).1) λp d out r g f o=>?_));have s:fv A d:=fv.of (f.bT nz);exact hR s.c (hR (cL f rfl:d.R 49 0=A.R 49 0) (ab (a:=It.bo (out.map uS)) rfl (vH ⟨r,g,L.fr (f.bT nz),s,(f 49 0 rfl).1.trans hd⟩ o b T λu v x x6 j=>zJ j λw y k J N E=>⟨_,_,.refl,q _ _ out k N.R N.H N.L N.s o E⟩)))
section
variable {E:List cj}
theorem C0{k:Nat}{g:Int->Option V}(R:AR h A)(e:A.o k t=U (.dI u g))(H:u.length<64)(q:∀l:List Int,(∀r,r∈l↔(g r).isSome=true)->l.length<=u.length->newList (ae l) Q h):pQ .sorted [.ref (A.R k t)] Q h:=by refine il (R.dI e) λes E a b d c=>?_;have L:=gm a b;refine wD E ⟨K6 L H,q _ (λr=>?_) (Z (iu _) (Z (KS _) L))⟩;simp only[hB,<-fi,c]
theorem C4{k:Nat}{g:List Int->Option V}(R:AR h A)(e:A.o k t=U (.dP u g))(H:u.length<64)(n:∀x∈u,x≠[])(q:∀l:List (List Int),(∀r,r∈l↔(g r).isSome=true)->l.length<=u.length->newList (l.map λl=>V.aA (ae l)) Q h):pQ .sorted [.ref (A.R k t)] Q h:=by refine il (R.dP e) λes a b E d c=>?_;have L:=gm b E;refine wD a ⟨K6 L H,λx m=>n _ (E _ (fi.mpr (LG.mpr ⟨x,m,rfl⟩))),λl p=>q l (λr=>?_) (by(refine Z p.length_eq (Z (KS _) ?_));exact L)⟩;rw[p.mem_iff,<-fi,c]
theorem FG(l:List (List Int)):gI h .ne (.fl (l.map λl=>V.aA (ae l))) (.fl [])=U (!l.isEmpty):=by
 have H:(V.fl (l.map λl=>V.aA (ae l))).hi 8=true:=by refine(?_ :(l.map λl=>V.aA (ae l)).all (V.hi 7)=true);simp only[L6];intro x X;refine aD (LG.mp X) λi _ e=>?_;clear X;subst e;exact mV i 5
 refine((Z H ?_):(if((V.fl (l.map λl=>V.aA (ae l))).hi 8&&true)=true then U (V.kz (l.map λl=>V.aA (ae l)) []) else KT).map (!·)=_);clear H;induction l<;>rfl
theorem E8(k:Nat)(h:pH k=true):pC k=true:=by
 unfold pC;induction a:Ly k 49 with
 |true=>rw[Mc a] at h;exact aK h
 |false=>
  induction b:Ly k 50 with
  |true=>rw[Mc b] at h;exact aK h
  |false=>rfl
theorem dw(q:ai.Ex.bh G1 C es J (GW Q) h):ai.Ex.wp G1 C (.aA es) J Q h:=q
theorem pR{a:Type}{o:Option a}{f:a->V}(h:(o.map f).isSome=true):∃p,o=U p:=by induction o with
 |none=>exact aK h
 |some p=>exact⟨p,rfl⟩
noncomputable def BR(A:AH)(turn:Int)(x3 x X x6 x7 x8 x9:Option V):aV:=[U (.ref (A.R 42 0)),U Me,U (.int turn),x3,x,X,x6,x7,x8,x9,KT,KT]
theorem z'(s:A'.R 42 0=A.R 42 0):BR A'=BR A:=by unfold BR;exact Z s rfl
structure AS(A0 A:AH)(h:Hp)(cs:List Int)(M:Hs)(S:Ls):Prop where
 R:AR h A
 H:ah A M
 L:et A cs S
 s:fv A0 A
theorem AS.Iv(N:AS A0 A h cs M S)(R:AR h' A')(H:ah A' M)(f:Fr p4 A A'):AS A0 A' h' cs M S:=⟨R,H,N.L.fr f,N.s.trans (fv.of f)⟩
inductive AI(A0:AH)(cs:List Int)(M:Hs)(S:Ls)(turn:Int)(l:List V)(J:aV)(h:Hp):Prop
 |mk (A:AH) (L:List Int) (x3 x X x6 x7 x8:Option V) (e:l=ae L) (H:∀t∈L,∃p,S.tl t=U p) (E:J=BR A turn x3 x X x6 x7 x8 KT) (N:AS A0 A h cs M S)
structure AK(F:List bm)(E:List cj)(M:Hs)(S:Ls):Prop where
 f:dd F M E []
 hz:∀f∈F,f.m≠0
 eF:S.a0.flatten=F
 hF:F.length<=1000
 hT:∀t p,S.tl t=U p->oN F M E t p.1 p.2.1/\∃a b,S.wd t=U (a,b)/\aj a/\aj b/\(M.aC t=U (a,b)\/M.aC t=U (b,a))
 hE:∀key p,S.eq key=U p->∃j k:Nat,k<j/\j<9/\key=[(j:Int),(k:Int)]/\lT F E (3+j) (3+k) p.1
noncomputable def JC:List St:=match eo.body with
 |.for _ _ b::_=>b
 |_=>[]
theorem xH{turn:Int}{x3 X:Option V}{P:PS}(K:AK F E M S)(N:AS A0 A h cs M S)(j:∃p,S.tl t=U p)
  (q:∀h' A' x X x6 x7 x8,AS A0 A' h' cs M S->P .next (BR A' turn (U (.int t)) x X x6 x7 x8 KT) h'):St.bh G1 (lw (n+4)) JC (BR A turn (U (.int t)) x X x6 x7 x8 KT) P h:=by
 refine cY j λB ep=>?_;obtain⟨T,am,H⟩:=B;refine ay (K.hT t _ ep) λhd r=>yJ r λa b w k l s=>aY (dm N.R N.L.bI (i:="told") rfl (cI N.R N.L.tl (v:=ig (T,am,H)) (congrArg (NH ig) ep) ⟨rfl,aX rfl,aX rfl,aX rfl,aY (dm N.R N.L.bI (i:="watched") rfl (cI N.R N.L.wd (v:=b' (a,b)) (congrArg (NH b') w) (vV rfl (aX rfl) (aX rfl) (bX N.R N.H rfl k5 (a1 rfl (mA N.R N.H K.f K.hz hd λu y L p c R e f G=>?_))))))⟩));have m:fZ F am L a b T:=by
  refine K4 s (λs=>?_) λs=>?_;·rw[s] at c;obtain rfl:=KP c;exact G
  ·rw[s] at c;obtain rfl:=KP c;exact G.symm
 have g:=N.Iv R e (f.bT xg);refine hR ((fv.of (f.bT xg)).c) (v6 R g.L K.eF K.hF K.f.C.fn k l m λz C o d=>?_);have:=q _ _ (U (.int T)) (U (.fl (ae am))) (U (.int H)) (U (.int a)) (U (.int b)) (g.Iv o (e.r3 (d.bT E8)) (d.bT yw));replace this:=(z' (((fv.of (f.bT xg)).trans (fv.of (d.bT yw))).c))▸this;exact this
theorem zy{turn:Int}{X:Option V}{P:PS}(K:AK F E M S)(N:AS A0 A h cs M S)
  (q:∀h' A' x3 x X x6 x7 x8,AS A0 A' h' cs M S->St.bh G1 (lw (n+4)) (eo.body.drop 1) (BR A' turn x3 x X x6 x7 x8 KT) P h'):St.bh G1 (lw (n+4)) eo.body (BR A turn x3 x X x6 x7 x8 KT) P h:=by
 refine dm N.R N.L.bI (i:="told") rfl (ax (C0 N.R N.L.tl (by decide) λl d f=>bz (Z (bb _) (KQ f (by decide))) (ab (a:=It.bo (ae l)) rfl (iz (AI A0 cs M S turn) (λv r J g s I k=>?_) (λJ g I=>?_) _ ⟨A,l,_,_,_,_,_,_,rfl,λt m=>pR ((d t).mp m),rfl,N⟩))))
 ·obtain⟨j,L,x3,x,X,x6,x7,x8,e,H,b,c⟩:=I
  cases L with
  |nil=>cases e
  |cons t L=>
  obtain⟨rfl,rfl⟩:=LR e;subst b;exact⟨aX rfl,xH (x3:=KT) K c (H t KX) λu o y w z B C p=>k _ _ ⟨o,L,_,_,_,_,_,_,rfl,λt m=>H t (K1 _ m),rfl,p⟩⟩
 ·obtain⟨j,L,x3,x,X,x6,x7,x8,e,H,b,c⟩:=I
  subst b;exact q _ _ _ _ _ _ _ _ c
theorem AJ{turn:Int}{l:List (List Int)}(h:(0:Int)<((l.map λl=>V.aA (ae l)).length:Int)):∃key,key∈l/\jr (l.map λl=>V.aA (ae l)) (turn %((l.map λl=>V.aA (ae l)).length:Int))=U (.aA (ae key)):=by
 have i:=OU turn (Ok h);have I:=Os turn h;have lt:(turn %((l.map λl=>V.aA (ae l)).length:Int)).toNat<l.length:=by rw[KS] at i I⊢;exact(Int.toNat_lt i).mpr I
 refine⟨l[(turn %((l.map λl=>V.aA (ae l)).length:Int)).toNat],NA lt,?_⟩;unfold jr;refine Z (if_pos i) (Z (ML) (Z (L8 lt) ?_));rfl
theorem zY{turn:Int}{X:Option V}{P:PS}(K:AK F E M S)(N:AS A0 A h cs M S)(q:∀h' A' J,AS A0 A' h' cs M S->P (.ret (.bool true)) J h'):
  St.bh G1 (lw (n+4)) (eo.body.drop 1) (BR A turn x3 x X x6 x7 x8 KT) P h:=by
 refine aY (k3 (av (eV (aB rfl (aS (dm N.R N.L.bI (i:="equal") rfl (ax (C4 N.R N.L.eq (by decide) (by decide) λl c b=>bz (Z (KS _) (KQ b (by decide))) ⟨aX rfl,bz (Lf _) (ab (FG l) ?_)⟩))))))));induction m:l.isEmpty with
 |true=>exact bH rfl (q _ _ _ N)
 |false=>
  have H:(0:Int)<((l.map λl=>V.aA (ae l)).length:Int):=by
   refine Z (KS _) ?_;clear b c;induction l using LP with
   |nil=>exact aK m.symm
   |cons=>exact Sn.mpr (M4 _)
  refine aD (AJ (turn:=turn) H) λkey k I=>?_;refine cY (pR ((c key).mp k)) λp ep=>?_;refine yJ (K.hE key p ep) λj i t L e hd=>?_;clear k;subst e;refine bW rfl (aY (eV (aB rfl (er (aB rfl ⟨by refine Z (KS _) ?_;exact KQ b (by decide),H,ab I ⟨rfl,aX rfl,aX rfl,?_⟩⟩)))));refine aY (dw (av (eV (eV (aB rfl (aS (dm N.R N.L.bI (i:="some") rfl (aB rfl (ab (jc L) ?_)))))))));refine av (eV (eV (aB rfl (aS (dm N.R N.L.bI (i:="some") rfl (aB rfl (ab (jc (Mx t L)) (ax (vV (by decide:2<=aN) rfl (aX rfl) ⟨aX rfl,?_⟩)))))))));refine rt (w_call (bX N.R N.H rfl dB (a2 rfl rfl (uX N.R N.H K.f K.hz (ye L) (ye (Mx t L)) hd λo s u r d f G=>?_))));have a:=N.Iv r d (f.bT xg);exact hR ((fv.of (f.bT xg)).c) (hR (z' (fv.of (f.bT xg)).c) (dm r a.L.bI (i:="equal") rfl ⟨(by decide:2<=aN),F3 r a.L.eq (i:=[(j:Int),(i:Int)]) rfl (v:=jJ p) (congrArg (NH jJ) ep) (v6 r a.L K.eF K.hF K.f.C.fn (ye L) (ye (Mx t L)) G λw y R g=>q _ _ _ (a.Iv R (d.r3 (g.bT E8)) (g.bT yw)))⟩))
theorem Gy(R:AR h A)(H:ah A M)(L:et A cs S)(f:dd F M E [])(hz:∀f∈F,f.m≠0)(e:S.a0.flatten=F)(c:F.length<=1000)(T:∀t p,S.tl t=U p->oN F M E t p.1 p.2.1/\∃a b,S.wd t=U (a,b)/\aj a/\aj b/\(M.aC t=U (a,b)\/M.aC t=U (b,a)))
  (d:∀key p,S.eq key=U p->∃j k:Nat,k<j/\j<9/\key=[(j:Int),(k:Int)]/\lT F E (3+j) (3+k) p.1){turn:Int}(q:∀h' A',AR h' A'->ah A' M->et A' cs S->fv A A'->Q (.bool true) h'):lw (n+5) "_law_asked" [.ref (A.R 42 0),Me,.int turn] Q h:=by
 exact ab se ⟨rfl,zy (x3:=KT) ⟨f,hz,e,c,T,d⟩ ⟨R,H,L,.refl⟩ λi l x3 x X x6 x7 x8 g=>zY ⟨f,hz,e,c,T,d⟩ g λm o J N=>⟨_,_,.refl,q _ _ N.R N.H N.L N.s⟩⟩
end
def Fa(K:Nat)(T:Int)(A A':AH):Prop:=∀k t,¬(k=K/\t=T)->A'.o k t=A.o k t/\A'.st k t=A.st k t/\A'.vr k t=A.vr k t
section
variable {Ux:AH} {k0:Nat} {t0:Int}
theorem Fa.refl:Fa k0 t0 A A:=λ_ _ _=>⟨rfl,rfl,rfl⟩
theorem Fa.trans(a:Fa k0 t0 A A')(b:Fa k0 t0 A' Ux):Fa k0 t0 A Ux:=λk t e=>⟨(b k t e).1.trans (a k t e).1,(b k t e).2.1.trans (a k t e).2.1,(b k t e).2.2.trans (a k t e).2.2⟩
theorem Fa.new{m:Nat}{x:AO}:Fa k0 t0 A (A.new k0 t0 m x):=λk t e=>⟨if_neg e,if_neg e,if_neg e⟩
theorem Fa.set{x:AO}:Fa k0 t0 A (A.set k0 t0 x):=λk t e=>⟨if_neg e,rfl,if_neg e⟩
theorem Fa.fr{p:Nat->Bool}(a:Fa k0 t0 A A')(e:p k0=false):Fr p A A':=λk t h=>a k t λq=>by replace h:=e▸q.1▸h;exact aK h
theorem nq:(A.set k0 t0 x).o k0 t0=U x:=if_pos ⟨rfl,rfl⟩
theorem y7:(A.new k0 t0 m x).o k0 t0=U x:=if_pos ⟨rfl,rfl⟩
theorem Fa.R(a:Fa k0 t0 A A'){k:Nat}{t:Int}(e:¬(k=k0/\t=t0)):A'.R k t=A.R k t:=congrArg (cq.mk k t) (a k t e).2.1
theorem w_dict{t:V->aV->(aV->Hp->Prop)->Hp->Prop}{b:aV->PS->Hp->Prop}{Q:PS}{v:Nat}(I:List V->aV->Hp->Prop)(same:∀l J h,I l J h->h.e4 r=v/\(h.o r).isSome=true)
  (step:∀x l J h (K:aV->Hp->Prop),I (x::l) J h->(∀J h,I l J h->K J h)->t x J (n6 b (Fl.seq K Q)) h)
  (cU:∀J h,I [] J h->Q .next J h):∀(l:List V) {J:aV} {h:Hp},I l J h->∃n,dr t b n (.dict r v l) J Q h:=by
 have:∀(l:List V) J h,I l J h->dr t b (l.length+1) (.dict r v l) J Q h:=by
  intro l;induction l with
  |nil=>intro J h i;exact i6 (if_pos (same _ _ _ i):(It.dict r v []).next h=U KT) (cU J h i)
  |cons x l H=>intro J h i;exact i6 (if_pos (same _ _ _ i):(It.dict r v (x::l)).next h=U (U (x,.dict r v l))) (step x l J h (n6 (dr t b (l.length+1) (.dict r v l)) Q) i λJ h i=>H J h i)
 exact λl J h i=>⟨_,this l J h i⟩
theorem Am{k:Nat}{g:Int->Option V}(R:AR h A)(e:A.o k t=U (.dI u g)):∃l:List Int,It.start h (.ref (A.R k t))=U (.dict (A.R k t) (A.vr k t) (ae l))/\∀x,x∈l↔(g x).isSome=true:=by refine il (R.dI e) λes E b c d a=>⟨es.map (·.1),Z (m0 E) (Z ((R.1 k t _ e).2) ?_),λx=>by rw[<-fi,a]⟩;rfl
theorem Bb{k:Nat}{g:List Int->Option V}(R:AR h A)(e:A.o k t=U (.dP u g)):∃l:List (List Int),It.start h (.ref (A.R k t))=U (.dict (A.R k t) (A.vr k t) (l.map λl=>V.aA (ae l)))/\∀x,x∈l↔(g x).isSome=true:=by refine il (R.dP e) λes E b c d a=>⟨es.map (·.1),?_,λx=>by rw[<-fi,a]⟩;simp only[m0 E,(R.1 k t _ e).2,QJ];rfl
theorem v'{k:Nat}{a:AO}(R:AR h A)(e:A.o k t=U a):h.e4 (A.R k t)=A.vr k t/\(h.o (A.R k t)).isSome=true:=by exact ay (R.1 k t a e) λb E=>aD b λx c _=>⟨E,by refine Z c ?_;rfl⟩
noncomputable def xa{b:Type}(p:b->Bool):Option b->Option b
 |none=>KT
 |some a=>if p a=true then U a else KT
noncomputable def lM(S:Ls)(m:Nat):Ls:={S with a0:=S.a0.take m,tl:=λt=>xa (λp=>decide (p.2.2<=m)) (S.tl t),eq:=λt=>xa (λp=>decide (p.2<=m)) (S.eq t),g:=S.g+1}
noncomputable def uC{K a:Type}[DecidableEq K](f:K->Option a)(p:a->Bool)(l:List K):K->Option a:=λt=>if t∈l then xa p (f t) else KT
theorem tt{K b:Type}[DecidableEq K]{f:K->Option b}{p:b->Bool}{l:List K}{t:K}{a:b}(e:f t=U a)(h:p a=true):aH (uC f p l) t (U a)=uC f p (l++[t]):=by
 funext x;refine(?_ :(if x=t then U a else if x∈l then xa p (f x) else KT)=if x∈l++[t] then xa p (f x) else KT);by_cases c:x=t;·exact Z (if_pos c) (Z (if_pos (Ld _ (KU.mpr c))) (Z c (Z e ((if_pos h).symm))))
 ·refine Z (if_neg c) ?_
  by_cases d:x∈l;·exact Z (if_pos d) (Z (if_pos (Lb _ d)) rfl)
  ·exact Z (if_neg d) (Z (if_neg λm=>(K8.mp m).elim d λm=>c (KU.mp m)) rfl)
theorem ql{K b:Type}[DecidableEq K]{f:K->Option b}{p:b->Bool}{l:List K}{t:K}{a:b}(e:f t=U a)(h:p a=false):uC f p l=uC f p (l++[t]):=by
 funext x;refine(?_ :(if x∈l then xa p (f x) else KT)=if x∈l++[t] then xa p (f x) else KT);by_cases d:x∈l;·exact Z (if_pos d) (Z (if_pos (Lb _ d)) rfl)
 ·refine Z (if_neg d) ?_
  by_cases c:x=t;·refine Z (if_pos (Ld _ (KU.mpr c))) (Z c (Z e ((Z h ?_):KT=if p a=true then U a else KT)));rfl
  ·exact Z (if_neg λm=>(K8.mp m).elim d λm=>c (KU.mp m)) rfl
theorem r'{K b:Type}[DecidableEq K]{f:K->Option b}{p:b->Bool}{l:List K}(e:∀x,x∈l↔(f x).isSome=true):uC f p l=λt=>xa p (f t):=by
 funext x;refine(?_ :(if x∈l then xa p (f x) else KT)=xa p (f x));by_cases d:x∈l;·exact Z (if_pos d) rfl
 ·refine Z (if_neg d) ?_
  induction c:f x with
  |none=>rfl
  |some a=>exact(d ((e x).mpr (by refine Z c ?_;rfl))).elim
theorem rC(A:AH)(n m:Nat)(h:m<=n):(aO A n).take m=aO A m:=by unfold aO;simp only[<-NJ,List.take_range,OT h]
theorem DS(n:Nat):aO (A.new 44 0 m x) n=aO A n:=My λi _=>rfl
noncomputable def IH(A:AH)(g:Int)(l:V):List (String×V):=[("some",.fl (ae ar)),("inner",.ref (A.R 41 0)),("levels",l),("watched",.ref (A.R 46 0)),("told",.ref (A.R 47 g)),("equal",.ref (A.R 48 g))]
theorem et.Kt(L:et A cs S){k m:Nat}(h:m<=S.a0.length):et ((A.new 44 0 k (.list (aO A m))).set 42 0 (.dS (IH A S.g (.ref ⟨44,0,k⟩)))) cs {S with a0:=S.a0.take m}:=by
 refine⟨L.cl,L.nA,L.gV,rfl,?_,λi l e=>?_,L.wd,L.tl,L.eq⟩
 ·refine(?_ :U (AO.list (aO A m))=U (AO.list (aO _ (S.a0.take m).length)))
  simp only[MH,OT h];rfl
 ·have e:(S.a0.take m)[i]? =U l:=e
  have:S.a0[i]? =U l:=by
   rw[Rm] at e;split at e;·exact e
   ·exact al e
  exact L.lf i l this
theorem et.fa(L:et A cs S)(f:Fa k0 t0 A A')(h:k0=47\/k0=48)(H:S.g≠t0):et A' cs S:=by
 have n:∀k t,k≠47->k≠48->¬(k=k0/\t=t0):=λk t a b q=>by exact K4 h (λe=>a (q.1.trans e)) λe=>b (q.1.trans e)
 have N:∀k,¬(k=k0/\S.g=t0):=λk q=>H q.2;have es:zR A' S.g=zR A S.g:=by unfold zR;simp only[f.R (k:=41) (n _ _ (by decide) (by decide)),f.R (k:=44) (n _ _ (by decide) (by decide)),f.R (k:=46) (n _ _ (by decide) (by decide)),f.R (k:=47) (N _),f.R (k:=48) (N _)]
 have E:aO A' S.a0.length=aO A S.a0.length:=by unfold aO;exact My λi _=>congrArg V.ref (f.R (n _ _ (by decide) (by decide)))
 exact⟨L.cl,(f _ _ (n _ _ (by decide) (by decide))).1.trans L.nA,(f _ _ (n _ _ (by decide) (by decide))).1.trans L.gV,(f _ _ (n _ _ (by decide) (by decide))).1.trans (L.bI.trans (Z es rfl)),(f _ _ (n _ _ (by decide) (by decide))).1.trans (L.a0.trans (Z E rfl)),
  λi l e=>(f _ _ (n _ _ (by decide) (by decide))).1.trans (L.lf i l e),(f _ _ (n _ _ (by decide) (by decide))).1.trans L.wd,(f _ _ (N _)).1.trans L.tl,(f _ _ (N _)).1.trans L.eq⟩
theorem Eb{k:Nat}{g:Int->Option V}(R:AR h A)(e:A.o k t=U (.dI u g)){x:Int}(H:(g x).isSome=true):x∈u:=by exact il (R.dI e) λes b c E d a=>E x (Z (a _) H)
theorem Fx{k:Nat}{g:List Int->Option V}(R:AR h A)(e:A.o k t=U (.dP u g)){x:List Int}(H:(g x).isSome=true):x∈u:=by exact il (R.dP e) λes b c E d a=>E x (Z (a _) H)
theorem wi(q:ai.Ex.wp G1 C e J (oo (ai.Ex.wp G1 C i J) (Ba Q)) h):ai.Ex.wp G1 C (.gk e i) J Q h:=q
theorem mF(H:fits a)(B:fits b)(q:Q (.int (a-b)) h):sQ .sub (.int a) (.int b) Q h:=⟨H,B,q⟩
theorem gg{Q:aV->Hp->Prop}(q:ai.Ex.wp G1 C e J (oo (ai.Ex.wp G1 C i J) (Hi v (Q J))) h):Tg.wp G1 C (.sub e i) v J Q h:=q
theorem rI{P:PS}(q:ai.Ex.wp G1 C e J (Ib (Tg.wp G1 C t) (St.bh G1 C b) J (Fl.seq (n6 (St.bh G1 C r) P) P)) h):St.bh G1 C (.for t e b::r) J P h:=q
theorem ug{i k:Nat}{v:V}(E:(J[i]?).join=U (.ref (A.R k t)))(R:AR h A)(o:A.o k t=U (.dS fs))(e:bc fs f=U v)(q:Q v h):ai.Ex.wp G1 C (.sub (.var i) (.aE (.str f))) J Q h:=ab E (dm R o e q)
theorem uz{i k:Nat}{fs':List (String×V)}{P:aV->Hp->Prop}(E:(J[i]?).join=U (.ref (A.R k t)))(R:AR h A)(o:A.o k t=U (.dS fs))(l:fs.length<900)(e:bA fs f v=fs')(q:∀h',AR h' (A.set k t (.dS fs'))->P J h'):Tg.wp G1 C (.sub (.var i) (.aE (.str f))) v J P h:=ab E (y' R o l e q)
noncomputable def pm(A:AH)(g:Int)(k m:Nat)(x6 x7:Option V):aV:=[U (.ref (A.R 42 0)),U Me,U (.int (k:Int)),U (.int m),U (.ref (A.R 47 (g+1))),U (.ref (A.R 48 (g+1))),x6,x7]
theorem mj(g:Int):g≠g+1:=λe=>by omega
theorem Fa.KL(f:Fa j t0 A0 A)(e:Ly 42 j=false){k:Nat}(h:Ly k j=false){t:Int}:A.R k t=A0.R k t:=f.R λq=>OQ h q.1
inductive TT(A0:AH)(S:Ls)(k m:Nat)(s:List Int)(x7:Option V)(l:List V)(J:aV)(h:Hp):Prop
 |mk (A:AH) (L b:List Int) (x6:Option V) (e:l=ae b) (E:s=L++b) (a:J=pm A S.g k m x6 x7) (R:AR h A) (f:Fa 47 (S.g+1) A0 A) (o:A.o 47 (S.g+1)=U (.dI fw λt=>(uC S.tl (λp=>decide (p.2.2<=m)) L t).map ig))
inductive TE(A0:AH)(S:Ls)(k m:Nat)(s:List (List Int))(x6:Option V)(l:List V)(J:aV)(h:Hp):Prop
 |mk (A:AH) (L b:List (List Int)) (x7:Option V) (e:l=b.map λl=>V.aA (ae l)) (E:s=L++b) (a:J=pm A S.g k m x6 x7) (R:AR h A) (f:Fa 48 (S.g+1) A0 A) (o:A.o 48 (S.g+1)=U (.dP gD λt=>(uC S.eq (λp=>decide (p.2<=m)) L t).map jJ))
theorem sr{a:Type}{o:Option a}{f:a->V}(h:(o.map f).isSome=true):∃p,o=U p:=by induction o with
 |none=>exact aK h
 |some p=>exact⟨p,rfl⟩
theorem Cn(R:AR h A)(L:et A cs S)(o:A.o 47 (S.g+1)=U (.dI fw λ_=>KT)){k m:Nat}{P:PS}
  (q:∀h' A' x,AR h' A'->Fa 47 (S.g+1) A A'->A'.o 47 (S.g+1)=U (.dI fw λt=>(xa (λp=>decide (p.2.2<=m)) (S.tl t)).map ig)->St.bh G1 (lw n) (bq.body.drop 5) (pm A' S.g k m x x7) P h'):
  St.bh G1 (lw n) (bq.body.drop 4) (pm A S.g k m x6 x7) P h:=by
 refine aD (Am R L.tl) λw D M=>rI (ug rfl R L.bI rfl (ab D (w_dict (TT A S k m w x7) (λl J h' I=>?_) (λv l J H K I B=>?_) (λJ H I=>?_) _ ⟨A,[],w,_,rfl,rfl,rfl,R,.refl,o⟩)))
 ·obtain⟨A',d,b,y,E,e,u,G,F,Q⟩:=I
  have:=v' G (L.fa F (.inl rfl) (mj _)).tl;replace this:=((F 47 S.g λq=>mj _ q.2).2.2)▸(F.R λq=>mj _ q.2)▸this;exact this
 ·obtain⟨z,d,b,y,E,e,u,r,f,g⟩:=I
  have j:=L.fa f (.inl rfl) (mj _);cases b with
  |nil=>cases E
  |cons t b=>
  obtain⟨rfl,rfl⟩:=LR E;subst u;have mt:=(M t).mp (Z e (Ld _ KX));refine cY (sr mt) λp ep=>?_;have s:w=(d++[t])++b:=Z (Lj _ _ _) e;have C:(λt=>(S.tl t).map ig) t=U (ig p):=congrArg (NH ig) ep;refine⟨aX rfl,dm r j.bI (i:="told") rfl (cI r j.tl C (aS (ab (a:=V.int p.2.2) rfl (aB rfl ?_))))⟩;by_cases c:p.2.2<=m;·exact ab (a:=true) (congrArg U (decide_eq_true (MS.mpr c))) (bW rfl (aY (dm r j.bI (i:="told") rfl (cI r j.tl C (cF r g (Eb r j.tl mt) λT N=>B _ _ ⟨z.set 47 (S.g+1) _,d++[t],b,_,rfl,s,rfl,N,f.trans .set,Z nq (hR (tt ep (decide_eq_true c)) (hR (wg p) rfl))⟩)))))
  ·exact ab (a:=false) (congrArg U (decide_eq_false λk=>c (MS.mp k))) (bH rfl (B _ _ ⟨z,d++[t],b,_,rfl,s,rfl,r,f,hR (ql ep (decide_eq_false c)) g⟩))
 ·obtain⟨z,d,b,y,E,e,u,r,f,g⟩:=I
  cases b with
  |cons=>cases E
  |nil=>
  subst u;rw[Lk] at e;subst e;rw[r' λx=>by rw[M];exact T' (congrArg (·=true) isSome_map)] at g;exact q _ _ _ r f g
theorem GH(R:AR h A)(L:et A cs S)(o:A.o 48 (S.g+1)=U (.dP gD λ_=>KT)){k m:Nat}{P:PS}
  (q:∀h' A' x,AR h' A'->Fa 48 (S.g+1) A A'->A'.o 48 (S.g+1)=U (.dP gD λt=>(xa (λp=>decide (p.2<=m)) (S.eq t)).map jJ)->St.bh G1 (lw n) (bq.body.drop 6) (pm A' S.g k m x6 x) P h'):
  St.bh G1 (lw n) (bq.body.drop 5) (pm A S.g k m x6 x7) P h:=by
 refine aD (Bb R L.eq) λw D M=>rI (ug rfl R L.bI rfl (ab D (w_dict (TE A S k m w x6) (λl J h' I=>?_) (λv l J H K I B=>?_) (λJ H I=>?_) _ ⟨A,[],w,_,rfl,rfl,rfl,R,.refl,o⟩)))
 ·obtain⟨A',d,b,y,E,e,u,G,F,Q⟩:=I
  have:=v' G (L.fa F (.inr rfl) (mj _)).eq;replace this:=((F 48 S.g λq=>mj _ q.2).2.2)▸(F.R λq=>mj _ q.2)▸this;exact this
 ·obtain⟨z,d,b,y,E,e,u,r,f,g⟩:=I
  have j:=L.fa f (.inr rfl) (mj _);cases b with
  |nil=>cases E
  |cons t b=>
  obtain⟨rfl,rfl⟩:=LR E;subst u;have mt:=(M t).mp (Z e (Ld _ KX));refine cY (sr mt) λp ep=>?_;have s:w=(d++[t])++b:=Z (Lj _ _ _) e;have C:(λt=>(S.eq t).map jJ) t=U (jJ p):=congrArg (NH jJ) ep;refine⟨aX rfl,dm r j.bI (i:="equal") rfl (F3 r j.eq (i:=t) (dC t) C (aS (ab (a:=V.int p.2) rfl (aB rfl ?_))))⟩;by_cases c:p.2<=m;·refine ab (a:=true) (congrArg U (decide_eq_true (MS.mpr c))) (bW rfl (aY (dm r j.bI (i:="equal") rfl (F3 r j.eq (i:=t) (dC t) C (oB r g (dC t) (Fx r j.eq mt) λT N=>B _ _ ⟨z.set 48 (S.g+1) _,d++[t],b,_,rfl,s,rfl,N,f.trans .set,Z nq (hR (tt ep (decide_eq_true c)) (hR (e6 (U p)) ?_))⟩)))));rfl
  ·exact ab (a:=false) (congrArg U (decide_eq_false λk=>c (MS.mp k))) (bH rfl (B _ _ ⟨z,d++[t],b,_,rfl,s,rfl,r,f,hR (ql ep (decide_eq_false c)) g⟩))
 ·obtain⟨z,d,b,y,E,e,u,r,f,g⟩:=I
  cases b with
  |cons=>cases E
  |nil=>
  subst u;rw[Lk] at e;subst e;rw[r' λx=>by rw[M];exact T' (congrArg (·=true) isSome_map)] at g;exact q _ _ _ r f g
theorem ES(R:AR h A)(L:et A cs S){k:Nat}{P:PS}{v w:V}
  (q:∀h',AR h' ((A.set 42 0 (.dS [("some",.fl (ae ar)),("inner",.ref (A.R 41 0)),("levels",.ref (A.R 44 0)),("watched",.ref (A.R 46 0)),("told",.ref (A.R 47 (S.g+1))),("equal",.ref (A.R 48 S.g))])).set 42 0 (.dS (zR A (S.g+1))))->P .next (pm A S.g k m x6 x7) h'):
  St.bh G1 (lw n) (bq.body.drop 6) (pm A S.g k m x6 x7) P h:=
 aY (dw (a2 rfl rfl ⟨(by decide:2<=aN),rfl,uz rfl R L.bI (aX rfl) rfl λH r=>uz (A:=A.set 42 0 _) (k:=42) (t:=0) rfl r rfl (aX rfl) rfl λb a=>q _ a⟩))
theorem E'(R:AR h A)(L:et A cs S){k m:Nat}{x3 x X x6 x7:Option V}{P:PS}(a:m+k=S.a0.length)(d:S.a0.length<=1000)
  (q:∀h' A',AR h' A'->Fr pH A A'->fv A A'->et A' cs {S with a0:=S.a0.take m}->St.bh G1 (lw n) (bq.body.drop 2) [U (.ref (A'.R 42 0)),U Me,U (.int (k:Int)),x3,x,X,x6,x7] P h'):
  St.bh G1 (lw n) (bq.body.drop 1) [U (.ref (A.R 42 0)),U Me,U (.int (k:Int)),x3,x,X,x6,x7] P h:=by
 have l:(aO A S.a0.length).length=S.a0.length:=by unfold aO;(refine Z (KS _) ?_;exact Z L0 rfl)
 have M:m<=S.a0.length:=hR a (Lr _ _);have H:S.a0.length<=aN:=KQ d (by decide);refine aY (wi (ug rfl R L.bI rfl (er (k3 (av (ug rfl R L.bI rfl (ax (cD R L.a0 ⟨by refine Z l ?_;exact H,aB rfl ?_⟩))))))));refine mF (Z l (eC H)) (eC (KQ (a▸Ng _ _:k<=S.a0.length) H)) ?_;refine Z (wT (b:=m) (by exact Z l a.symm)) ?_;refine ia (C:=lw n) (bU R L.a0) (fT (KQ M H)) (Z (rC _ _ _ M) ?_);have c:(aO A m).length=m:=by unfold aO;exact Z (KS _) (Z L0 rfl)
 exact c6 44 0 R (Z c (KQ M H)) λK f r=>uz (A:=A.new 44 0 K _) (k:=42) (t:=0) (fs':=IH A S.g (.ref ⟨44,0,K⟩)) rfl r L.bI (aX rfl) rfl λg e=>q _ ((A.new 44 0 K (.list (aO A m))).set 42 0 (.dS (IH A S.g (.ref ⟨44,0,K⟩)))) e (.trans (.new rfl) (.set rfl)) ⟨rfl,rfl,rfl⟩ (L.Kt M)
theorem Eu(R:AR h A)(L:et A cs S){k m:Nat}{x3 x X:Option V}{P:PS}(H:S.a0.length=m)(a:m<=1000)
  (q:∀h' A',AR h' A'->Fr pH A A'->fv A A'->et A' cs S->A'.o 47 (S.g+1)=U (.dI fw λ_=>KT)->A'.o 48 (S.g+1)=U (.dP gD λ_=>KT)->St.bh G1 (lw n) (bq.body.drop 4) (pm A' S.g k m x6 x7) P h'):
  St.bh G1 (lw n) (bq.body.drop 2) [U (.ref (A.R 42 0)),U Me,U (.int (k:Int)),x3,x,X,x6,x7] P h:=by
 have l:(aO A S.a0.length).length=m:=by unfold aO;(refine Z (KS _) ?_;exact Z L0 (Z H rfl))
 refine aY (k3 (av (ug rfl R L.bI rfl (ax (cD R L.a0 ⟨by refine Z l ?_;exact KQ a (by decide),aX rfl,?_⟩)))));refine Z l ?_;refine aY (dw (av (d0 (mY 47 (S.g+1) fw R (aX rfl) λK d r=>av (d0 (Fj 48 (S.g+1) gD r (by decide) λb e c=>ax ⟨(by decide:2<=aN),rfl,aX rfl,aX rfl,?_⟩))))));have F:Fa 47 (S.g+1) A (A.new 47 (S.g+1) K (.dI fw λ_=>KT)):=.new;have f:Fa 48 (S.g+1) (A.new 47 (S.g+1) K (.dI fw λ_=>KT)) ((A.new 47 (S.g+1) K (.dI fw λ_=>KT)).new 48 (S.g+1) b (.dP gD λ_=>KT)):=.new;have N:¬((47:Nat)=48/\S.g+1=S.g+1):=λq=>absurd q.1 (by decide);have:=q _ _ c (.trans (F.fr rfl) (f.fr rfl)) ⟨rfl,rfl,rfl⟩ ((L.fa F (.inl rfl) (mj _)).fa f (.inr rfl) (mj _)) ((f _ _ N).1.trans y7) y7;unfold pm at this;simp only[f.R N,n3,n3] at this;exact this
theorem mZ(R:AR h A)(H:ah A M)(L:et A cs S){s r:List Nat}{spot m:Nat}{T es:List e0}(E:M.am=s++spot::r)(t:M.ak=T++es)(P:T.length=spot)(B:i0 es M N)(k:M.am.length<=aN)(lt:M.ak.length<=aN)(o:M.a4.length<=aN)
  (C:M.aU=KT\/s.length<M.j2)(a:m+(r.length+1)=S.a0.length)(c:S.a0.length<=1000)(q:∀h' A',AR h' A'->ah A' (rU M N T s)->et A' cs (lM S m)->fv A A'->Q .none h'):
  lw (n+4) "_law_taken_back" [.ref (A.R 42 0),Me,.int ((r.length+1:Nat):Int)] Q h:=by
 refine ab lp ⟨rfl,bX R H rfl n' (a1 rfl (ux R H E t P B k lt o C λh1 u x y d=>?_))⟩;have e:fv A u:=fv.of (d.bT Hd);refine hR e.c (E' x (L.fr (d.bT Hd)) a c λh2 A2 z D G I=>Eu z I (Z MH (OT (hR a (Lr _ _)))) (KQ (a▸Lr _ _) c) λh3 J K V W g X o8=>Cn K g X λh4 i x4 R4 f p7=>?_);have j:=g.fa f (.inl rfl) (mj _);refine GH R4 j ((f 48 _ λq=>absurd q.1 (by decide)).1.trans o8) λh5 A5 x5 R5 F p8=>?_;have l:=j.fa F (.inr rfl) (mj _);refine ES (v:=.none) (w:=.none) R5 l λh6 R6=>?_;have b:=(((e.trans G).trans W).trans (⟨f.R λq=>absurd q.1 (by decide),f.R λq=>absurd q.1 (by decide),f.R λq=>absurd q.1 (by decide)⟩:fv J i)).trans (⟨F.R λq=>absurd q.1 (by decide),F.R λq=>absurd q.1 (by decide),F.R λq=>absurd q.1 (by decide)⟩:fv i A5);exact q _ _ R6 (((((y.r3 D).r3 V).r3 (f.fr (p:=pH) rfl)).r3 (F.fr (p:=pH) rfl)).r3 (.trans (.set rfl) (.set rfl))) ⟨l.cl,l.nA,l.gV,rfl,l.a0,l.lf,l.wd,(F 47 _ λq=>absurd q.1 (by decide)).1.trans p7,p8⟩ ⟨b.a,b.b,b.c⟩
end
structure mc where
 S:Hs
 E:List cj
 F:List bm
def oc(S:Ls)(k:Nat)(c:mc):Prop:=(∀t p,S.tl t=U p->p.2.2<=k->oN c.F c.S c.E t p.1 p.2.1)/\∀key p,S.eq key=U p->p.2<=k->∃j i:Nat,i<j/\j<9/\key=[(j:Int),(i:Int)]/\lT c.F c.E (3+j) (3+i) p.1
theorem rY.bv{n m:Nat}(h:n<=m)(b:rY n M):rY m M:=⟨by have:=b.tr;exact bM (lN _ _ _ _) 0x12814471291440012c5144a913128144712a1440012c5 rfl h this,b.nw,b.qu,b.yk⟩
inductive b9(n:Nat)(S:Ls):List (List bm)->mc->Prop
 |base {l c}:c.F=l->c.S.am=[]->b9 n S [l] c
 |up {L l s c}:b9 n S L s->dd s.F s.S s.E []->rY n s.S->c.F=s.F++l->(∃E1,c.E=s.E++E1)->gG s.S c.S->c.S.am=s.S.am++[s.S.ak.length]->c.S.aC=s.S.aC->(∀t d,s.S.a7 t=U d->c.S.a7 t=U d)->oc S L.length s->b9 n S (L++[l]) c
section
variable {m:Nat} {S':Ls} {Uj:List (List bm)} {c c':mc}
theorem b9.yH(h:n<=m)(k:b9 n S Uj c):b9 m S Uj c:=by
 induction k with
 |base a b=>exact .base a b
 |up _ a b d e f g i t j I=>exact .up I a (b.bv h) d e f g i t j
theorem b9.pos(k:b9 n S Uj c):0<Uj.length:=by
 induction k with
 |base=>exact M4 _
 |up=>exact Z KW (M4 _)
theorem b9.th(k:b9 n S Uj c):c.F=Uj.flatten:=by
 induction k with
 |base a _=>refine Z a ?_;simp
 |up _ _ _ d _ _ _ _ _ _ i=>simp only[d,i,Of];simp
theorem b9.am(k:b9 n S Uj c):c.S.am.length+1=Uj.length:=by
 induction k with
 |base _ b=>refine Z b ?_;rfl
 |up _ _ _ _ _ _ g _ _ _ i=>simp only[g,KW,KW];exact congrArg (·+1) i
theorem b9.kF(k:b9 n S Uj c)(H:∀t p,S'.tl t=U p->p.2.2<Uj.length->S.tl t=U p)(m:∀t p,S'.eq t=U p->p.2<Uj.length->S.eq t=U p):b9 n S' Uj c:=by
 induction k with
 |base a b=>exact .base a b
 |@up Uj l s c k a b d e f g i T j I=>rw[(bf _:(Uj++[l]).length=Uj.length+1)] at H m;refine .up (I (λt p h k=>H t p h (No k)) λt p h k=>m t p h (No k)) a b d e f g i T ⟨λt p h k=>j.1 t p (H t p h (PM k)) k,λt p h k=>j.2 t p (m t p h (PM k)) k⟩
set_option tactic.hygienic true in
theorem b9.step{L:List (List bm)}{l m:List bm}(k:b9 n S (L++[l]) c)(x:ox c.S c.E c'.S c'.E)(H:c'.F=c.F++m):b9 n S (L++[l++m]) c':=by
 generalize e:L++[l]=Uj at k
 cases k with
 |base a b=>
  rename_i o
  have:L=[]/\l=o:=by
   cases L with
   |nil=>(injection e with e;clear a;subst e);exact⟨rfl,rfl⟩
   |cons y ys=>cases ys<;>cases e
  clear e
  obtain⟨rfl,rfl⟩:=this
  exact .base (Z H (Z a rfl)) (x.am.trans b)
 |up k a b d E1 f g i T j=>
  obtain⟨rfl,E⟩:=List.append_inj' e rfl
  (injection E with E;clear e;subst E)
  obtain⟨E1,p⟩:=E1
  obtain⟨E2,q⟩:=x.pre
  exact .up k a b (by simp only[H,d,Lj]) ⟨E1++E2,by simp only[q,p,Lj]⟩ (f.trans x.bk) (x.am.trans g) (x.aC.trans i) (λt d h=>x.a7 t d (T t d h)) j
theorem b9.push(k:b9 n S Uj c)(f:dd c.F c.S c.E [])(b:rY n c.S)(h:oc S Uj.length c):b9 n S (Uj++[[]]) ⟨c.S.dg (c.S.am++[c.S.ak.length]),c.E,c.F⟩:=
 .up k f b (Lk _).symm ⟨[],(Lk _).symm⟩ (.Hq rfl rfl) rfl rfl (λ_ _ h=>h) h
theorem b9.re(k:b9 n S Uj c)(X:Hs)(h:c'.S=c.S.ov X)(m:X.ak=c.S.ak)(H:X.am=c.S.am)(o:c'.E=c.E)(l:c'.F=c.F):b9 n S Uj c':=by
 induction k with
 |base a b=>exact .base (l.trans a) (Z h (H.trans b))
 |up k a b d e f g i T j=>exact .up k a b (l.trans d) (Z o e) (aD f λes t B=>Z h ⟨es,m.trans t,B.ov X⟩) (Z h (H.trans g)) (Z h i) (Z h T) j
theorem b9.pop(k:b9 n S Uj c):∀{q:Nat},1<=q->q<Uj.length->∃s r,b9 n S (Uj.take (Uj.length-q)) s/\dd s.F s.S s.E []/\rY n s.S/\oc S (Uj.length-q) s/\c.S.am=s.S.am++s.S.ak.length::r/\r.length+1=q/\gG s.S c.S/\c.S.aC=s.S.aC/\(∀t d,s.S.a7 t=U d->c.S.a7 t=U d):=by
 induction k with
 |base a b=>intro q h1 H;exact absurd H (Pz.mpr h1)
 |@up Uj l s c k a b d e f g i T j I=>
  intro q h1 H;rw[(bf _:(Uj++[l]).length=Uj.length+1)] at H⊢;rcases Rw h1 with rfl |h1
  ·refine⟨s,[],?_,a,b,Z (Rx _ _) j,g,rfl,f,i,T⟩
   (refine Z (Rx _ _) (Z (Ob (K9 _)) (Z List.take_length ?_)));exact k
  ·refine G2 (I (q:=q-1) (by omega) (by omega)) λs' r K o p m u y v R=>ay R λw x=>?_
   rw[(by lia:Uj.length-(q-1)=Uj.length+1-q)] at K m;refine⟨s',r++[s.S.ak.length],Z (Ob (by omega)) K,o,p,m,?_,?_,v.trans f,i.trans w,λt d h=>T t d (x t d h)⟩;·simp only[g,u,Lj];rfl
   ·refine Z KW (?_ :r.length+1+1=q)
    omega
end
structure LB(i:Nat)(A:AH)(cs:List Int)(M:Hs)(S:Ls)(c:mc):Prop where
 H:ah A M
 L:et A cs S
 cS:c.S=M
 ch:b9 i S S.a0 c
 b:rY i (M.eH [])
 nl:M.a4.length<=300
 hq:M.aw=[]
 nu:∀t∈M.a4,t∈fw/\(S.wd t).isSome=true
 nt:∀t∈M.a4,M.a7 t≠KT->S.tl t=KT
 h1:∀t p,S.tl t=U p->p.2.2<=S.a0.length
 h2:∀t p,S.eq t=U p->p.2<=S.a0.length
 wd:∀t a b,S.wd t=U (a,b)->aj a/\aj b/\(M.aC t=U (a,b)\/M.aC t=U (b,a))
 sw:∀t,(M.aC t).isSome=true->(S.wd t).isSome=true
 ws:∀t p,S.tl t=U p->(S.wd t).isSome=true
 fl:c.F.length<=i
 hz:∀f∈c.F,f.m≠0
 fn:∀f∈c.F,aj f.x/\aj f.y
 le:S.a0.length<=i+1
structure LF(M:Hs)(S:Ls)(c:mc):Prop where
 f:dd c.F M c.E []
 hc:M.aU=KT
 he:oc S S.a0.length c
def LM(i:Nat)(A:AH)(cs:List Int)(M:Hs)(S:Ls)(c:mc):Prop:=LB i A cs M S c/\(LF M S c\/(M.aU≠KT/\M.j2=M.am.length/\DW c.F))
theorem oN.ext{F b:List bm}{E d:List cj}{t T:Int}{am:List Int}(x:ox M E N d)(i:∃f,b=F++f)(h:oN F M E t T am):oN b N d t T am:=by refine xj h.ex λE0 j E1 f c p l H m r=>oW r λg n s k ok=>?_;obtain⟨E2,e⟩:=x.pre;obtain⟨o,a⟩:=i;exact⟨E0,j,E1++E2,f++o,c,p,by(exact Z e (Z l (Z (Lj _ _ _) rfl))),by(exact Z a (Z H (Z (Lj _ _ _) rfl))),m,g,x.a7 _ _ n,by refine Z x.aC ?_;exact s,k,ok⟩
theorem lT.ext{F b:List bm}{E c:List cj}{x y:Int}{am:List Int}(k:ox M E N c)(d:∃f,b=F++f)(h:lT F E x y am):lT b c x y am:=by refine B2 h.ex λE0 i E1 f j H m g ok=>?_;obtain⟨E2,e⟩:=k.pre;obtain⟨l,a⟩:=d;exact⟨E0,i,E1++E2,f++l,by simp only[e,j,Lj],by simp only[a,H,Lj],m,g,ok⟩
theorem oc.ext{S:Ls}{k:Nat}{c c':mc}(x:ox c.S c.E c'.S c'.E)(H:∃f,c'.F=c.F++f)(h:oc S k c):oc S k c':=
 ⟨λt p e l=>(h.1 t p e l).ext x H,λkey p e l=>let ⟨j,i,a,b,d,g⟩:=h.2 key p e l;⟨j,i,a,b,d,g.ext x H⟩⟩
section
variable {i:Nat} {c:mc} {Uk:List (List bm)} {l:List bm} {fa:bm}
theorem et.w6(L:et A cs S)(e:S.a0=Uk++[l]):et (A.set 45 (Uk.length:Int) (.list ((l++[fa]).map dL))) cs {S with a0:=Uk++[l++[fa]]}:=by
 refine⟨L.cl,L.nA,L.gV,L.bI,?_,λi a E=>?_,L.wd,L.tl,L.eq⟩
 ·have:(Uk++[l++[fa]]).length=S.a0.length:=by simp only[e,KW,KW];rfl
  exact((Z this (L.a0)):A.o 44 0=U (.list (aO A (Uk++[l++[fa]]).length)))
 ·have E:(Uk++[l++[fa]])[i]? =U a:=E
  refine(?_ :(if 45=45/\(i:Int)=(Uk.length:Int) then U _ else A.o 45 (i:Int))=_);rcases Nat.lt_trichotomy i Uk.length with lt |rfl |gt
  ·refine Z (if_neg λq=>by omega) (L.lf i a ?_)
   rw[Mo lt] at E;exact Z e (Z (Mo lt) E)
  ·refine Z (if_pos ⟨rfl,rfl⟩) ?_
   rw[Lx (K9 _),Nb] at E
   (replace E:=KP E;subst E);rfl
  ·rw[N6 (Z KW gt)] at E
   exact al E
theorem LM.of(B:LB i A cs M S c)(F:LF M S c)(e:S.a0=Uk++[l]){E:List cj}(H':ah A' N)(q:et A' cs {S with a0:=Uk++[l++[fa]]})(s:fa.m≠0)(u:aj fa.x/\aj fa.y)(x:ox M c.E N E)(b:rY (i+1) N)(Q:N.aw=[])(r:(N.aU=none/\dd (c.F++[fa]) N E [])\/(N.aU≠none/\N.j2=N.am.length/\DW (c.F++[fa]))):
  LM (i+1) A' cs N {S with a0:=Uk++[l++[fa]]} ⟨N,E,c.F++[fa]⟩:=by
 have L:(Uk++[l++[fa]]).length=S.a0.length:=by simp only[e,KW,KW];rfl
 have X:ox c.S c.E N E:=Z B.cS x;have o:∀t,M.a7 t=none->S.tl t=none:=by
  intro t H;induction es:S.tl t with
  |none=>rfl
  |some p=>refine xj ((F.he.1 t p es (B.h1 t p es)).ex) λ_ _ _ _ d _ _ _ _ R=>cH R λ_ hd _=>?_;replace hd:=H▸B.cS▸hd;exact al hd
 have C:=B.ch;replace C:=e▸C;refine⟨⟨H',q,rfl,(b9.kF (S':={S with a0:=Uk++[l++[fa]]}) (b9.step (c':=⟨N,E,c.F++[fa]⟩) C X rfl) (λ_ _ h _=>h) (λ_ _ h _=>h)).yH (LN _),⟨b.tr,by refine(?_ :0+20*cls N<=300);have:=h5 N;lia,b.qu,b.yk⟩,by have:=b.nw;lia,Q,λt m=>?_,λt m H=>?_,λt p h=>?_,λt p h=>?_,λt a b h=>?_,λt h=>?_,B.ws,?_,λf m=>?_,λf m=>?_,?_⟩,?_⟩;·exact K4 (x.a4 t m) (λk=>B.nu t k) λg=>cH g λ_ K v=>⟨K,B.sw t v⟩
 ·refine K4 (x.a4 t m) (λk=>?_) λj=>ay j λk _=>o t k
  ·by_cases d:M.a7 t=none
   ·exact o t d
   ·exact B.nt t k d
 ·exact((Z L (B.h1 t p h)):p.2.2<=(Uk++[l++[fa]]).length)
 ·exact((Z L (B.h2 t p h)):p.2<=(Uk++[l++[fa]]).length)
 ·exact Z x.aC (B.wd t a b h)
 ·replace h:=x.aC▸h;exact B.sw t h
 ·exact((Z KW (Lp B.fl)):(c.F++[fa]).length<=i+1)
 ·refine K4 (K8.mp m) (λm=>B.hz f m) λm=>?_
  cases KU.mp m;exact s
 ·refine K4 (K8.mp m) (λm=>B.fn f m) λm=>?_
  cases KU.mp m;exact u
 ·exact((Z L (LH B.le)):(Uk++[l++[fa]]).length<=_)
 ·refine K4 r (λn=>ay n λw y=>?_) λr=>.inr r
  ·exact .inl ⟨y,w,((Z L (oc.ext (c:=c) (c':=⟨N,E,c.F++[fa]⟩) X ⟨_,rfl⟩ F.he)):oc _ (Uk++[l++[fa]]).length _)⟩
theorem rY.sC(b:rY i (M.eH []))(h:M.a4.length<=100):rY i M:=⟨b.tr,by have:=h5 M;lia,b.qu,b.yk⟩
theorem tv{d:Type}{p:d->Bool}{o:Option d}{a:d}(h:xa p o=U a):o=U a/\p a=true:=by
 induction o with
 |none=>exact al h
 |some b=>
  have h:(if p b=true then U b else KT)=U a:=h;by_cases c:p b=true;·replace h:=(if_pos c)▸h;(replace h:=KP h;subst h);exact⟨rfl,c⟩
  ·replace h:=(if_neg c)▸h;exact al h
theorem LB.pop(B:LB i A cs M S c){q:Nat}(w:1<=q)(y:q<S.a0.length):∃(s:mc) (r:List Nat) (es:List e0),M.am=s.S.am++s.S.ak.length::r/\M.ak=s.S.ak++es/\i0 es M (s.S.ov M)/\r.length+1=q/\
  ∀A',ah A' (rU M (s.S.ov M) s.S.ak s.S.am)->et A' cs (lM S (S.a0.length-q))->LB i A' cs (rU M (s.S.ov M) s.S.ak s.S.am) (lM S (S.a0.length-q)) ⟨rU M (s.S.ov M) s.S.ak s.S.am,s.E,s.F⟩/\LF (rU M (s.S.ov M) s.S.ak s.S.am) (lM S (S.a0.length-q)) ⟨rU M (s.S.ov M) s.S.ak s.S.am,s.E,s.F⟩:=by
 refine G2 (B.ch.pop w y) λs r C F j H n z K R=>ay R λD o=>aD K λes t K=>?_;rw[B.cS] at n t K D o;have l:(S.a0.take (S.a0.length-q)).length=S.a0.length-q:=by refine Z MH ?_;lia
 have T:∀{t p},(lM S (S.a0.length-q)).tl t=U p->S.tl t=U p/\p.2.2<=S.a0.length-q:=λh=>let ⟨a,b⟩:=tv h;⟨a,of_decide_eq_true b⟩;have E:∀{t p},(lM S (S.a0.length-q)).eq t=U p->S.eq t=U p/\p.2<=S.a0.length-q:=λh=>let ⟨a,b⟩:=tv h;⟨a,of_decide_eq_true b⟩;have u:s.F=(S.a0.take (S.a0.length-q)).flatten:=C.th;have v:c.F=S.a0.flatten:=B.ch.th;have sub:∀f∈s.F,f∈c.F:=by intro f m;rw[u] at m;refine Z v ?_;exact aD (RP.mp m) λx X G=>RP.mpr ⟨x,Q6 X,G⟩
 refine⟨s,r,es,n,t,K,z,λA' H' L=>⟨⟨H',L,rfl,b9.kF (S':=lM S (S.a0.length-q)) (b9.re (c':=⟨rU M (s.S.ov M) s.S.ak s.S.am,s.E,s.F⟩) C (rU M (s.S.ov M) s.S.ak s.S.am) rfl rfl rfl rfl rfl) (λt p h _=>(T h).1) (λt p h _=>(E h).1),⟨j.tr,?_,?_,?_⟩,KQ (Nj _ _) B.nl,rfl,λt m=>B.nu t (MM.mp m).1,λt m ht=>?_,λt p h=>?_,λt p h=>?_,λt a b h=>?_,λt h=>B.sw t (Z D h),λt p h=>B.ws t p (T h).1,?_,λf m=>B.hz f (sub f m),λf m=>B.fn f (sub f m),?_⟩,⟨⟨F.C.cg rfl rfl rfl rfl rfl rfl rfl rfl rfl,⟨F.nc.nv,F.nc.np⟩,F.to⟩,rfl,?_⟩⟩⟩;·refine(?_ :0+20*cls s.S<=300);have:=h5 s.S;lia
 ·refine(?_ :0+4*cls s.S<=40);have:=h5 s.S;lia
 ·refine(?_ :s.S.am.length<=1000);have:=j.yk;exact this
 ·refine ay (MM.mp m) λI J=>?_
  induction e:(lM S (S.a0.length-q)).tl t with
  |none=>rfl
  |some p=>have k:=(T e).1;obtain⟨d,hd⟩:=LY.mp J;rw[B.nt t I (Z (o t d hd) λe=>nomatch e)] at k;exact al k
 ·refine((Z l ?_):p.2.2<=(S.a0.take (S.a0.length-q)).length);exact(T h).2
 ·refine((Z l ?_):p.2<=(S.a0.take (S.a0.length-q)).length);exact(E h).2
 ·refine cH (B.wd t a b h) λP Q N=>?_
  rw[D] at N;exact⟨P,Q,N⟩
 ·refine((Z u ?_):s.F.length<=i)
  have:=qE S.a0 (S.a0.length-q);rw[<-v] at this;exact KQ this B.fl
 ·refine(?_ :(S.a0.take (S.a0.length-q)).length<=i+1)
  have:=B.le;omega
 ·refine((Z l ?_):oc _ (S.a0.take (S.a0.length-q)).length _)
  refine⟨λt p h k=>xj ((H.1 t p (T h).1 k).ex) λE0 V E1 W d p' g1 g2 g3 g=>oW g λg4 g5 g6 g7 g8=>?_,λkey p h k=>H.2 key p (E h).1 k⟩;exact⟨E0,V,E1,W,d,p',g1,g2,g3,g4,g5,g6,g7,g8⟩
end
section
variable {i j:Nat} {c:mc} {Uk:List (List bm)} {l:List bm} {fa:bm}
theorem LB.bv(B:LB i A cs M S c)(h:i<=j):LB j A cs M S c:=⟨B.H,B.L,B.cS,B.ch.yH h,B.b.bv h,B.nl,B.hq,B.nu,B.nt,B.h1,B.h2,B.wd,B.sw,B.ws,KQ B.fl h,B.hz,B.fn,KQ B.le (Lp h)⟩
theorem fH{c:ai.Ex}{P:PS}(q:ai.Ex.rQ G1 C c J (BD (St.bh G1 C a J (Fl.seq (n6 (St.bh G1 C r) P) P)) (St.bh G1 C b J (Fl.seq (n6 (St.bh G1 C r) P) P))) h):St.bh G1 C (.cG c a b::r) J P h:=q
theorem Ic{k:Int}{P:Bool->Hp->Prop}(e:(J[i]?).join=U (.int a))(q:P (decide (a<k)) h):ai.Ex.rQ G1 C (.bV .lt (.var i) (.aE (.int k))) J P h:=ab e (aS (ab (a:=decide (a<k)) rfl q))
theorem uP{P:Bool->Hp->Prop}(q:ai.Ex.rQ G1 C a J (BD (ai.Ex.rQ G1 C b J (BD (P true) (P false))) (P false)) h):ai.Ex.rQ G1 C (.and [a,b]) J P h:=q
theorem Ie{P:Bool->Hp->Prop}(e:(J[i]?).join=U (.int a))(E:(J[j]?).join=U (.int b))(q:P (!decide (a=b)) h):ai.Ex.rQ G1 C (.bV .ne (.var i) (.var j)) J P h:=ab e (ab E (I9 q))
theorem e1{P:PS}(q:ai.Ex.wp G1 C e J (kE (St.bh G1 C r J P)) h):St.bh G1 C (.expr e::r) J P h:=q
theorem wR{k:Int}{P:Bool->Hp->Prop}(e:(J[i]?).join=U (.int a))(q:P (decide (a=k)) h):ai.Ex.rQ G1 C (.bV .eq (.var i) (.aE (.int k))) J P h:=ab e (aS (ab (m7 a k) q))
theorem yG{P:PS}(L:et A cs S)(R:AR h A)(e:S.a0=Uk++[l])(E:dL fa=.aA [.str s,.int x,.int y,.int m])(H:l.length<=1000)(b:(J[0]?).join=U (.ref (A.R 42 0)))(c:(J[3]?).join=U (.int x))(d:(J[4]?).join=U (.int y))(f:(J[5]?).join=U (.int m))
  (q:∀h',AR h' (A.set 45 (Uk.length:Int) (.list ((l++[fa]).map dL)))->St.bh G1 C r J P h'):St.bh G1 C (.expr (.az (.sub (.sub (.var 0) (.aE (.str "levels"))) (.aE (.int (-1)))) "append" [.aA [.aE (.str s),.var 3,.var 4,.var 5]])::r) J P h:=by
 have n:S.a0.length=Uk.length+1:=Z e (bf _);have o:=L.lf Uk.length l (by(refine Z e (Z (Lx (K9 _)) (Z (Nb _) ?_)));rfl);have I:jr (aO A S.a0.length) (-1)=U (.ref (A.R 45 (Uk.length:Int))):=by
  have H:(aO A S.a0.length).length=Uk.length+1:=by unfold aO;(exact Z (KS _) (Z L0 (Z n rfl)))
  unfold jr;refine Z (if_neg (by decide)) (Z H (Z (if_pos (by lia)) (Z ((by lia:(-1+((Uk.length+1:Nat):Int)).toNat=Uk.length)) ?_)));unfold aO;refine Z (ML) (Z (List.getElem?_range (by omega)) ?_);rfl
 refine ab b (aS (dm R L.bI (i:="levels") rfl (aS (jX R L.a0 I (ab (aq R o) ⟨rfl,av (dw (av (aS (a3 c d f ⟨(by decide:4<=aN),ax ⟨aq R o,bJ R o (Z (KS _) (K6 H (by decide))) λa g=>?_⟩⟩))))⟩)))));exact q a (Z Lm ((Z E g):AR a (A.set 45 (Uk.length:Int) (.list (l.map dL++[dL fa])))))
theorem et.push(L:et A cs S){k:Nat}:et ((A.new 45 (S.a0.length:Int) k (.list [])).set 44 0 (.list (aO A S.a0.length++[.ref ⟨45,(S.a0.length:Int),k⟩]))) cs {S with a0:=S.a0++[[]]}:=by
 refine⟨L.cl,L.nA,L.gV,L.bI,?_,λi l e=>?_,L.wd,L.tl,L.eq⟩
 ·refine((congrArg (λl=>U (AO.list l)) ?_):U (AO.list _)=U (AO.list (aO _ (S.a0++[[]]).length)))
  simp only[KW];unfold aO;refine Z (rfl:S.a0.length+[([]:List bm)].length=S.a0.length+1) (Z List.range_succ (Z Lm ?_));congr 1;·exact My λi h=>congrArg V.ref ((Z (if_neg λq=>by have:=Sl.mp h;omega) rfl):cq.mk 45 i _=cq.mk 45 i (if 45=45/\(i:Int)=(S.a0.length:Int) then k else A.st 45 i))
  ·exact((Z (if_pos ⟨rfl,rfl⟩) rfl):[V.ref (cq.mk 45 _ k)]=[V.ref (cq.mk 45 _ (if 45=45/\(S.a0.length:Int)=(S.a0.length:Int) then k else _))])
 ·have e:(S.a0++[[]])[i]? =U l:=e
  refine(?_ :(if 45=45/\(i:Int)=(S.a0.length:Int) then U (AO.list []) else A.o 45 (i:Int))=_);rcases OR i S.a0.length with lt |ge
  ·refine Z (if_neg λq=>by omega) ?_
   rw[Mo lt] at e;exact L.lf i l e
  ·rw[Lx ge] at e
   refine K4 (Rw ge) (λE=>?_) λg=>?_
   ·rw[<-E,Nb] at e
    obtain rfl:=KP e;refine Z (if_pos ⟨rfl,by rw[E]⟩) ?_;rfl
   ·rw[N6 (by refine(?_ :1<=i-S.a0.length);omega)] at e
    exact al e
theorem fv.Dw{t:Int}{x:AO}:fv A (A.set 45 t x):=⟨rfl,rfl,rfl⟩
theorem Cb{P:PS}(L:et A cs S)(R:AR h A)(l:S.a0.length<=1000)(e:(J[0]?).join=U (.ref (A.R 42 0)))
  (q:∀k h',AR h' ((A.new 45 (S.a0.length:Int) k (.list [])).set 44 0 (.list (aO A S.a0.length++[.ref ⟨45,(S.a0.length:Int),k⟩])))->St.bh G1 C r J P h'):St.bh G1 C (.expr (.az (.sub (.var 0) (.aE (.str "levels"))) "append" [.list []])::r) J P h:=by
 have H:(aO A S.a0.length).length=S.a0.length:=by unfold aO;(exact Z (KS _) (Z L0 rfl))
 refine ab e (aS (dm R L.bI (i:="levels") rfl (ab (aq R L.a0) ⟨rfl,c6 45 (S.a0.length:Int) (xs:=[]) R (Lf _) λk d a=>?_⟩)));have o:(A.new 45 (S.a0.length:Int) k (.list [])).o 44 0=U (.list (aO A S.a0.length)):=L.a0;exact⟨aq (A:=A.new 45 (S.a0.length:Int) k (.list [])) a o,bJ (A:=A.new 45 (S.a0.length:Int) k (.list [])) a o (Z H (K6 l (by decide))) λb c=>q k b c⟩
theorem iX{P:Bool->Hp->Prop}(q:ai.Ex.wp G1 C a J (oo (ai.Ex.wp G1 C b J) (E9 op P)) h):ai.Ex.rQ G1 C (.bV op a b) J P h:=q
theorem LM.push(B:LB i A cs M S c)(F:LF M S c)(n:M.a4.length<=100)(I:i<=12)(H':ah A' (M.dg (M.am++[M.ak.length])))(L:et A' cs {S with a0:=S.a0++[[]]}):LM (i+1) A' cs (M.dg (M.am++[M.ak.length])) {S with a0:=S.a0++[[]]} ⟨M.dg (M.am++[M.ak.length]),c.E,c.F⟩:=by
 have b:=B.b.sC n;have f:=F.f;have H:=F.he;have v:=B.ch.am;have E:=B.le;have l:(S.a0++[[]]).length=S.a0.length+1:=bf _;have e:=B.cS;clear n;subst e;refine⟨⟨H',L,rfl,(b9.kF (S':={S with a0:=S.a0++[[]]}) (b9.push B.ch f b H) (λ_ _ h _=>h) (λ_ _ h _=>h)).yH (LN _),⟨(b.bv (LN _)).tr,?_,b.qu,?_⟩,B.nl,B.hq,B.nu,B.nt,λt p h=>?_,λt p h=>?_,B.wd,B.sw,B.ws,LH B.fl,B.hz,B.fn,?_⟩,.inl ⟨⟨f.C.cg rfl rfl rfl rfl rfl rfl rfl rfl rfl,⟨f.nc.nv,f.nc.np⟩,f.to⟩,F.hc,?_⟩⟩;·refine(?_ :0+20*cls c.S<=300);have:=h5 c.S;lia
 ·refine(?_ :(c.S.am++[c.S.ak.length]).length<=1000)
  refine Z (bf c.S.am) ?_;lia
 ·refine(?_ :p.2.2<=(S.a0++[[]]).length);refine Z l ?_;exact LH (B.h1 t p h)
 ·refine(?_ :p.2<=(S.a0++[[]]).length);refine Z l ?_;exact LH (B.h2 t p h)
 ·refine(?_ :(S.a0++[[]]).length<=_);refine Z l ?_;lia
 ·refine⟨λt p h _=>?_,λkey p h _=>H.2 key p h (B.h2 key p h)⟩
  refine xj ((H.1 t p h (B.h1 t p h)).ex) λE0 a E1 g d P G j k r=>oW r λm o q s u=>?_;exact⟨E0,a,E1,g,d,P,G,j,k,m,o,q,s,u⟩
theorem uw{c:Type}{l:List c}(h:0<l.length):∃a b,l=a++[b]:=by refine K4 (QW l) (λe=>?_) λr=>g1 r λa b e=>⟨a,b,Z e (Z QY rfl)⟩;replace h:=e▸h;cases h
theorem LF.Ky(F:LF M S c):oc S S.a0.length c:=F.he
theorem done(R:AR h A)(B:LB i A cs M S c)(F:LF M S c)(hi:i<=12)(u:M.a4.length<=100){d m:Int}(d1:0<=d)(d8:d<8)(nx:aj x)(v:aj y)(J:m≠0)
  (q:∀h' A' M' S' c',AR h' A'->LM (i+1) A' cs M' S' c'->fv A A'->S'.spot=S.spot->Q .none h'):lw (n+9) "_law_done" [.ref (A.R 42 0),Me,.int d,.int x,.int y,.int m] Q h:=by
 have H:=B.H;have L:=B.L;have b:=B.b.sC u;refine g1 (uw B.ch.pos) λUk l E=>?_;have K:c.F.length<20:=K6 B.fl (by omega);have V:l.length<=1000:=by
  have:l.length<=c.F.length:=by simp only[B.ch.th,E,Of,KW];simp
  lia
 refine ab uF ⟨rfl,fH (Ic rfl ?_)⟩;by_cases W:d<4
 ·refine bW (decide_eq_true W) (yG (fa:=⟨true,x,y,m⟩) L R E rfl V rfl rfl rfl rfl λh1 e=>?_)
  have L1:=L.w6 (fa:=⟨true,x,y,m⟩) E;have g:=H.r3 (.set (k:=45) (t:=(Uk.length:Int)) (x:=.list ((l++[(⟨true,x,y,m⟩:bm)]).map dL)) rfl);exact bX e g rfl xE (a3 rfl rfl rfl (y8 e g F.f K (by omega) b F.hc B.hq nx v λD w N j o f r=>ll r λE' X G p I=>q _ _ _ _ _ j (LM.of B F E o (L1.fr (f.bT nz)) J ⟨nx,v⟩ X (G.bv (LN _)) p I) (fv.Dw.trans (fv.of (f.bT nz))) rfl))
 ·refine bH (decide_eq_false W) (fH (uP (Ic rfl ?_)))
  by_cases c2:d<6
  ·refine bW (decide_eq_true c2) (Ie rfl rfl ?_)
   by_cases C:x=y;·exact Z (decide_eq_true C) (bH rfl (fH (wR rfl (bH (decide_eq_false (by omega)) (fH (uP (wR rfl (bH (decide_eq_false (by omega)) (q _ _ _ _ _ R ⟨B.bv (LN _),.inl F⟩ .refl rfl)))))))))
   ·refine Z (decide_eq_false C) (bW rfl (yG (fa:=⟨false,x,y,m⟩) L R E rfl V rfl rfl rfl rfl λh1 e=>?_))
    have g:=H.r3 (.set (k:=45) (t:=(Uk.length:Int)) (x:=.list ((l++[(⟨false,x,y,m⟩:bm)]).map dL)) rfl);exact bX e g rfl qY (a3 rfl rfl rfl (sI e g F.f K (by omega) b F.hc B.hq u nx v λD w N j o f r=>ll r λE' X G p I=>q _ _ _ _ _ j (LM.of B F E o ((L.w6 (fa:=⟨false,x,y,m⟩) E).fr (f.bT nz)) J ⟨nx,v⟩ X G p I) (fv.Dw.trans (fv.of (f.bT nz))) rfl))
  ·refine bH (decide_eq_false c2) (fH (wR rfl ?_))
   by_cases C:d=6
   ·refine bW (decide_eq_true C) ?_
    have le:=B.le;refine Cb L R (by lia) rfl λk h1 e=>?_;have g:ah ((A.new 45 (S.a0.length:Int) k (.list [])).set 44 0 (.list (aO A S.a0.length++[.ref ⟨45,(S.a0.length:Int),k⟩]))) M:=H.r3 (.trans (.new rfl) (.set rfl));have t1:=b.tr;have t2:=b.yk;exact bX e g rfl nP (ax (uZ e g (KQ ((by lia:M.ak.length<=1000)) (by decide)) (K6 t2 (by decide)) λD w j o f=>q _ _ _ _ _ j (LM.push B F u hi o ((L.push (k:=k)).fr (f.bT nz))) ((⟨rfl,rfl,rfl⟩:fv A ((A.new 45 (S.a0.length:Int) k (.list [])).set 44 0 (.list (aO A S.a0.length++[.ref ⟨45,(S.a0.length:Int),k⟩])))).trans (fv.of (f.bT nz))) rfl))
   ·refine bH (decide_eq_false C) (fH (uP (wR rfl (bW (decide_eq_true (by lia:d=7)) ?_))))
    have le:=B.le;have z:(aO A S.a0.length).length=S.a0.length:=by unfold aO;(exact Z (KS _) (Z L0 rfl))
    refine iX (k3 (av (eV (aB rfl (aS (dm R L.bI (i:="levels") rfl (ax (cD R L.a0 ⟨by refine Z z ?_;exact KQ ((by omega:S.a0.length<=1000)) (by decide),?_⟩))))))));refine Z z (aS ?_);by_cases c5:(1:Int)<(S.a0.length:Int)
    ·refine ab (a:=true) (congrArg U (decide_eq_true c5)) (bW rfl ?_)
     have t1:=b.tr;refine e1 (w_call (av (aB rfl (av (aB rfl (av (er (aS (er (k3 (av (aB rfl ?_))))))))))));refine ax (Ap (er (k3 (av (eV (aB rfl (aS (dm R L.bI (i:="levels") rfl (ax (cD R L.a0 ⟨by refine Z z ?_;exact KQ ((by omega:S.a0.length<=1000)) (by decide),?_⟩))))))))));refine Z z (aS ?_);have P:(0:Int)<(S.a0.length:Int)-1:=by lia
     have m0:=OU x (Ok P);have m1:=Os x P;refine mF (eC (KQ ((by lia:S.a0.length<=1000)) (by decide))) (bY (by decide) (by decide)) (wm P (ni (bY (by decide) (by decide)) (bY m0 (by omega)) (ax ?_)));obtain⟨k,ek⟩:∃k:Nat,1+x %((S.a0.length:Int)-1)=(k:Int):=⟨(1+x %((S.a0.length:Int)-1)).toNat,by omega⟩;exact Cc (B.pop (q:=k) (by omega) (by omega)) λs aa es em et bk ac T=>Z ek (hR ac (mZ R H L em et rfl bk (KQ b.yk (by decide)) (KQ ((by lia:M.ak.length<=1000)) (by decide)) (KQ u (by decide)) (.inl F.hc) (m:=S.a0.length-k) (by lia) (by lia) λD w j o L2 s2=>ay (T w o L2) λB2 f=>q _ _ _ _ _ j ⟨B2.bv (LN _),.inl f⟩ s2 rfl))
    ·exact ab (a:=false) (congrArg U (decide_eq_false c5)) (bH rfl (q _ _ _ _ _ R ⟨B.bv (LN _),.inl F⟩ .refl rfl))
theorem LB.spot(B:LB i A cs M S c)(F:LF M S c){k:Nat}(l:et A' cs {S with spot:=k})(H':ah A' M):LB i A' cs M {S with spot:=k} c/\LF M {S with spot:=k} c:=
 ⟨⟨H',l,B.cS,b9.kF (S':={S with spot:=k}) B.ch (λ_ _ h _=>h) (λ_ _ h _=>h),B.b,B.nl,B.hq,B.nu,B.nt,B.h1,B.h2,B.wd,B.sw,B.ws,B.fl,B.hz,B.fn,B.le⟩,⟨F.f,F.hc,F.he⟩⟩
theorem tm{F:List bm}{c:Int->Int}(C:FW F c)(a:∀f∈F,aj f.x/\aj f.y):(∃p∈jW F,c p.1=c p.2)↔DW F:=by
 constructor
 ·rintro q;refine aD q λp m e=>?_
  rcases KZ.mp m with rfl |m
  ·exact .inl ((C 7 8 (by decide) (by decide)).mp e)
  ·obtain⟨k,m⟩:=jq.mp m
   obtain⟨n,N⟩:=a _ m;exact .inr ⟨k,p.1,p.2,m,(C _ _ n N).mp e⟩
 ·rintro(h |⟨k,x,y,m,h⟩)
  ·exact⟨(7,8),KX,(C 7 8 (by decide) (by decide)).mpr h⟩
  ·obtain⟨n,N⟩:=a _ m
   exact⟨(x,y),K1 _ (jq.mpr ⟨k,m⟩),(C _ _ n N).mpr h⟩
theorem LB.kF(B:LB i A cs M S c)(F:LF M S c){C:Int->Int}(L:FW c.F C){out:List (Int×Int)}(H:BH M out)(N:kc (gY S out (c.F.map (·.m)) S.a0.length) S' C (c.F.map (·.m)) S.a0.length)(H':ah A' (M.eH []))(x:et A' cs S'):
  LB i A' cs (M.eH []) S' ⟨M.eH [],c.E,c.F⟩/\LF (M.eH []) S' ⟨M.eH [],c.E,c.F⟩:=by
 have E:S'.a0=S.a0:=by refine Z N.b5 ?_;rfl
 have w:S'.wd=S.wd:=by refine Z N.b5 ?_;rfl
 have T:∀t p,S'.tl t=U p->S.tl t=U p\/∃e∈out,e.1=t/\p=(e.2,c.F.map (·.m),S.a0.length):=λt p h=>vt (hR (Z N.b5 rfl:S'.tl=(gY S out (c.F.map (·.m)) S.a0.length).tl) h);have f:=F.f;have s:=B.cS;refine⟨⟨H',x,rfl,?_,B.b,Lf _,B.hq,λt m=>(nomatch m),λt m=>(nomatch m),λt p h=>?_,λt p h=>?_,λt a b h=>?_,λt h=>Z w (B.sw t h),λt p h=>?_,B.fl,B.hz,B.fn,Z E B.le⟩,⟨⟨f.C.cg rfl rfl rfl rfl rfl rfl rfl rfl rfl,⟨f.nc.nv,f.nc.np⟩,f.to⟩,F.hc,?_⟩⟩
 ·refine Z E (b9.kF (S:=S) (b9.re (c':=⟨M.eH [],c.E,c.F⟩) B.ch (M.eH []) (by refine Z s ?_;rfl) (by refine Z s ?_;rfl) (by refine Z s ?_;rfl) rfl rfl) (λt p h k=>?_) λt p h k=>?_)
  ·rcases T t p h with g |⟨e,_,_,rfl⟩
   ·exact g
   ·exact absurd k (Ni _)
  ·rcases N.eq t p h with g |⟨_,_,_,_,_,_,rfl⟩
   ·exact g
   ·exact absurd k (Ni _)
 ·refine Z E ?_
  rcases T t p h with g |⟨e,_,_,rfl⟩
  ·exact B.h1 t p g
  ·exact K9 _
 ·refine Z E ?_
  rcases N.eq t p h with g |⟨_,_,_,_,_,_,rfl⟩
  ·exact B.h2 t p g
  ·exact K9 _
 ·replace h:=w▸h;exact B.wd t a b h
 ·refine Z w ?_
  rcases T t p h with g |⟨e,n,rfl,rfl⟩
  ·exact B.ws t p g
  ·exact(B.nu _ (H.2 e n).1).2
 ·refine Z E ⟨λt p h k=>?_,λkey p h k=>?_⟩
  ·rcases T t p h with g |⟨e,n,rfl,rfl⟩
   ·refine xj ((F.he.1 t p g k).ex) λE0 y E1 z d P D J K r=>oW r λQ G o V W=>?_
    rw[s] at G o;exact⟨E0,y,E1,z,d,P,D,J,K,Q,G,o,V,W⟩
   ·exact ay (H.2 e n) λ_ R=>aD R λd hd X=>aD (f.to _ _ hd) λP hs ok=>⟨c.E,c.F,[],[],d,P,(Lk _).symm,(Lk _).symm,rfl,f.C.gr,hd,hs,X,ok⟩
  ·rcases N.eq key p h with g |⟨j,I,l1,l2,rfl,e,rfl⟩
   ·exact F.he.2 key p g k
   ·have u:aj (3+(j:Int)):=by unfold aj;lia
    have v:aj (3+(I:Int)):=by unfold aj;lia
    refine⟨j,I,l1,l2,rfl,c.E,c.F,[],[],(Lk _).symm,(Lk _).symm,rfl,f.C.gr,K4 (f.C.sC ((L _ _ u v).mp e)) (λq=>?_) λl=>cH l λ_ _ q=>(f.C.ro _ _ u v).mp q⟩;lia
theorem xc(F:List bm):F.filterMap (λf=>U (V.int f.m))=ae (F.map (·.m)):=by
 induction F with
 |nil=>rfl
 |cons f F i=>simp only[Lu,i];rfl
theorem D7(k:Nat)(h:pH k=true):Jv k=true:=by
 unfold Jv;induction a:Ly k 40 with
 |false=>rfl
 |true=>rw[Mc a] at h;exact aK h
theorem Kr(k:Nat)(h:pH k=true):pX k=true:=DC k h
theorem zO(R:AR h A)(B:LB i A cs M S c)(F:LF M S c){C:Int->Int}(hd:A.o 49 0=U (.dI ar (hZ C)))(x:FW c.F C)(I:i<=12){P:PS}(y:J.length=17)(E:(J[6]?).join=U Me)(s:(J[7]?).join=U (.ref (A.R 42 0)))(j:∃t:Int,(J[9]?).join=U (.int t))(l:(J[14]?).join=U (.fl (c.F.map dL)))(o:(J[15]?).join=U (.ref (A.R 49 0)))
  (q:∀h' A' r S' c',AR h' A'->LB i A' cs r S' c'->LF r S' c'->r.a4.length<=10->fv A A'->S'.spot=S.spot->P .next J h'):
  St.bh G1 (lw (n+9)) [.cG (.or [.bV .oM (.az (.var 6) "conflict" []) (.aE .none),.not (.call "_law_noted" [.var 7,.var 6,.var 15,.comp (.sub (.var 16) (.aE (.int 3))) 16 (.var 14) (.none)])]) [.ret (.aE (.bool false))] [],.cG (.not (.call "_law_asked" [.var 7,.var 6,.var 9])) [.ret (.aE (.bool false))] []] J P h:=by
 refine cY j λtv j=>?_;have H:=B.H;have L:c.F.length<=12:=KQ B.fl I;have z:=B.le;refine fH (ab E (bX R H rfl kH (ax (pc R H F.hc (ab s (ab E (ab o (av (mL l (c.F.length+1) (comp_map (f:=λf=>U (V.int f.m)) c.F [] (Z NL (Z (ND _) (KQ L (by decide)))) (λf hf acc K D k=>?_) ?_))))))))))
 ·refine ab (a:=dL f) (by refine Z (hh (by refine Z y ?_;decide)) ?_;rfl) ?_
  exact⟨D,k⟩
 ·refine Z (OS _) (Z (xc _) (bz (Z (bb _) (Z (KS _) (KQ L (by decide)))) (ax (kF R H B.L hd (λt m=>B.nu t m) (λt m=>B.nt t m) (bM (gF _ _) 0x7003e85138c31371138 rfl I z) λh1 A1 out G Q u L1 v T N=>ay (B.kF F x T N u L1) λd g=>?_))))
  have W:G.spot=S.spot:=by refine Z N.b5 ?_;rfl
  refine fH (ab s (ab E (ab j (hR v.c (Gy Q u L1 g.f d.hz (Eq.symm d.ch.th) (KQ L (by decide)) (λt p h=>⟨g.he.1 t p h (d.h1 t p h),?_⟩) (λkey p h=>g.he.2 key p h (d.h2 key p h)) λh2 A2 X H2 L2 s2=>q _ _ _ _ _ X ⟨H2,L2,d.cS,d.ch,d.b,d.nl,d.hq,d.nu,d.nt,d.h1,d.h2,d.wd,d.sw,d.ws,d.fl,d.hz,d.fn,d.le⟩ g (Lf _) (v.trans s2) W)))))
  ·refine cY (LY.mp (d.ws t p h)) λe w=>?_;obtain⟨a,b⟩:=e
   exact cH (d.wd t a b w) λn1 n2 n3=>⟨a,b,w,n1,n2,n3⟩
end
noncomputable def z4:List St:=match lJ.body.drop 7 with
 |[.for _ _ b,_]=>b
 |_=>[]
section
variable {i j:Nat} {c:mc}
noncomputable def BJ(A:AH)(e x3 x8 x9 x10 x X a b c d:Option V):aV:=[e,U (.ref (A.R 40 0)),U Bk,x3,U (.fl (ae ar)),U (.ref (A.R 41 0)),U Me,U (.ref (A.R 42 0)),x8,x9,x10,x,X,a,b,c,d]
theorem iS(s:fv A B){X c:Option V}:BJ A e x3 x8 x9 x10 x X a b c d=BJ B e x3 x8 x9 x10 x X a b c d:=by unfold BJ;simp only[s.a,s.b,s.c]
inductive Be(A:AH)(e x3 x8 x9:Option V):aV->Prop
 |mk (x10 x X a b c d:Option V):Be A e x3 x8 x9 (BJ A e x3 x8 x9 x10 x X a b c d)
theorem ui{P:PS}(R:AR h A)(B:LB i A cs M S c)(H:i<=13){j X:Option V}
  (q:∀h' A' C,AR h' A'->LB i A' cs M S c->A'.o 49 0=U (.dI ar (hZ C))->FW c.F C->fv A A'->St.bh G1 (lw (n+9)) r (BJ A' j x3 x8 x9 x10 x X a (U (.fl (c.F.map dL))) (U (.ref (A'.R 49 0))) b) P h'):
  St.bh G1 (lw (n+9)) (.a8 (.var 14) (.call "_law_standing" [.var 7])::.a8 (.var 15) (.call "_law_closed" [.var 4,.var 5,.var 14])::r) (BJ A j x3 x8 x9 x10 x X a d e b) P h:=by
 have l:c.F.length<=13:=KQ B.fl H;have E:S.a0.flatten=c.F:=B.ch.th.symm;refine aY (w_call (a1 rfl (sV R B.L (KQ (K2 (congrArg Ov E)) (KQ l (by decide))) ⟨aX rfl,Z E (aY (w_call (a3 rfl rfl rfl (A8 R B.L.gV B.fn (KQ l (by decide)) λm k C o d1 L f=>⟨aX rfl,?_⟩))))⟩)));have s:fv A k:=fv.of (f.bT yw);have g:=q m k C o ⟨B.H.r3 (f.bT E8),B.L.fr (f.bT yw),B.cS,B.ch,B.b,B.nl,B.hq,B.nu,B.nt,B.h1,B.h2,B.wd,B.sw,B.ws,B.fl,B.hz,B.fn,B.le⟩ d1 L s;rw[<-iS s] at g;exact g
theorem sG(R:AR h A)(B:LB i A cs M S c)(F:LF M S c){C:Int->Int}(hd:A.o 49 0=U (.dI ar (hZ C)))(l:FW c.F C)(H:i<=12){X:Option V}{P:PS}
  (q:∀h' A' m S' c' J,AR h' A'->LB i A' cs m S' c'->LF m S' c'->m.a4.length<=10->fv A A'->S'.spot=S.spot->Be A' d x3 x8 (U (.int t)) J->P .next J h'):
  St.bh G1 (lw (n+9)) (z4.drop 6) (BJ A d x3 x8 (U (.int t)) x10 x X a (U (.fl (c.F.map dL))) (U (.ref (A.R 49 0))) b) P h:=by
 exact zO R B F hd l H rfl rfl rfl ⟨t,rfl⟩ rfl rfl λg j k o u r e f N s p=>q _ _ _ _ _ _ r e f N s p (iS s▸.mk ..)
theorem Bu(R:AR h A)(D:LM i A cs M S c)(H:i<=12){x0 X:Option V}{P:PS}(qr:∀J h,P (.ret (.bool true)) J h)
  (q:∀h' A' w S' c' J,AR h' A'->LB i A' cs w S' c'->LF w S' c'->w.a4.length<=10->fv A A'->S'.spot=S.spot->Be A' x0 x3 x8 (U (.int t)) J->P .next J h'):
  St.bh G1 (lw (n+9)) (z4.drop 3) (BJ A x0 x3 x8 (U (.int t)) x10 x X k o u v) P h:=by
 refine ay D λB D=>ui R B (LH H) λh1 A1 cc r d d1 C s1=>fH (a3 rfl rfl rfl (Ci r d.L (KQ (KQ B.fl H:c.F.length<=12) (by decide)) d.fn d1 (λy=>?_) λy=>K4 D (λF=>sG (n:=n) r d F d1 C H λh4 A4 M4 S4 c4 J z B4 E N G I K=>q _ _ _ _ _ _ z B4 E N (s1.trans G) I K) λf=>cH f λec ev g=>aD ((tm C d.fn).mpr g) λp m e=>(y p m e).elim))
 ·have g:=(tm C d.fn).mp y
  refine K4 D (λF=>(F.f.nc.u8 F.f.C g).elim) λj=>cH j λec ev _=>?_
  ·obtain⟨l,el⟩:∃l,M.aU=U l:=by
    induction e:M.aU with
    |none=>exact(ec e).elim
    |some l=>exact⟨l,rfl⟩
   have ml:=d.ch.am;replace ml:=d.cS▸ml;have hl:(aO A1 S.a0.length).length=S.a0.length:=by unfold aO;(exact Z (KS _) (Z L0 rfl))
   have le:=d.le;refine fH (iX (bX r d.H rfl kH (ax (pu r d.H el ?_))));refine aS (ab (a:=false) rfl ?_);refine bH rfl (fH (iX (k3 (av (eV ?_)))));refine aB rfl (aS ?_);refine dm r d.L.bI (i:="levels") rfl (ax (cD r d.L.a0 ⟨by refine Z hl ?_;exact KQ ((by exact bM (gF _ _) 0x7003e85138c31371138 rfl H le:S.a0.length<=1000)) (by decide),?_⟩));refine Z hl (aS ?_);refine ab (m7 _ _) ?_;by_cases c1:(S.a0.length:Int)=1;·exact bW (decide_eq_true c1) (qr _ _)
   ·refine bH (decide_eq_false c1) ?_
    have b:=d.b;have L:=b.tr;have t2:=b.yk;have L:M.ak.length+20*cls M<=300+20*i:=L;refine Cc (d.pop (q:=1) (by decide) (by lia)) λs T es em et bk er Q=>e1 (w_call (av ?_));refine aB rfl (av ?_);refine aB rfl (av ?_);refine aS (ax ?_);have aa:V.int 1=.int ((T.length+1:Nat):Int):=by refine Z er ?_;rfl
    refine Z aa (mZ r d.H d.L em et rfl bk (KQ (t2:M.am.length<=1000) (by decide)) (KQ ((by exact bM (io _ _ _) 0x7003e851448c31312914471281440012c5 rfl H L:M.ak.length<=1000)) (by decide)) (KQ d.nl (by decide)) (.inr ?_) (m:=S.a0.length-1) (by lia) (bM (gF _ _) 0x7003e85138c31371138 rfl H le) λh2 A2 R2 H2 L2 s2=>?_);·simp only[ev,em,KW,LK];exact bM (gF _ _) 0x1137111387 rfl
    obtain⟨B2,F2⟩:=Q A2 H2 L2;refine Z (iS s2) (ui R2 B2 (LH H) λh3 A3 ac R3 B3 d3 W s3=>?_);exact sG (n:=n) R3 B3 F2 d3 W H λh4 A4 M4 S4 c4 J z B4 E N G I K=>q _ _ _ _ _ _ z B4 E N (((s1.trans s2).trans s3).trans G) I K
theorem tZ{i:Int}(a: -1000000000<=i)(b:i<=1000000000):fits i:=⟨MI (by decide) a,MI b (by decide)⟩
theorem vP(R:AR h A)(B:LB i A cs M S c)(F:LF M S c)(s:S.spot<=1000){w:Int}(H:0<w)(q:∀v,0<=v->v<w->∀h' A',AR h' A'->LB i A' cs M {S with spot:=S.spot+1} c->LF M {S with spot:=S.spot+1} c->fv A A'->Q (.int v) h'):lw (n+1) "_law_next" [.ref (A.R 40 0),.int w] Q h:=by exact next R B.L s H λv V b h' A' r l f e=>ay (B.spot F l (B.H.r3 (f.bT D7))) λd a=>q v V b h' A' r d a ⟨e,cL f rfl,cL f rfl⟩
theorem f7{v:Int}(V:0<=v)(a:v<9):jr (ae ar) v=U (.int (3+v))/\aj (3+v):=by refine cY (QK V) λk e=>?_;subst e;exact⟨jc (by lia),by unfold aj;lia⟩
theorem C2(R:AR h A)(B:LB i A cs M S c)(F:LF M S c)(N:M.a4.length<=10)(H:i<=11)(s:S.spot<=500){X:Option V}{P:PS}(Q:∀J h,P (.ret (.bool true)) J h)
  (q:∀h' A' m S' c' J,AR h' A'->LB (i+1) A' cs m S' c'->LF m S' c'->m.a4.length<=10->fv A A'->S'.spot=S.spot+4->Be A' k x3 x8 (U (.int i)) J->P .next J h'):
  St.bh G1 (lw (n+9)) z4 (BJ A k x3 x8 (U (.int i)) x10 x X a b d e) P h:=by
 refine aY (dw (av (w_call (av (aB rfl (av (aS (ax (vP (n:=n+8) R B F (bM (kS _) 0x7003e85137001f45 rfl s) (by decide) λD d0 w h1 A1 z C E l=>av (eV (aB rfl (w_call (av (Z (iS l) ?_))))))))))))));refine aB rfl (av (aS (ax (vP (n:=n+8) z C E (((bM (kS _) 0x1137003e85137001f45 rfl s):S.spot+1<=1000)) (by decide) λvx f g h2 A2 G I K o=>?_))));obtain⟨ex,nx⟩:=f7 f g;refine ab ex (av (eV (aB rfl (w_call (av (Z (iS o) (aB rfl (av (aS (ax (vP (n:=n+8) G I K (by refine(?_ :S.spot+1+1<=1000);exact bM (kS _) 0x1131137003e85137001f45 rfl s) (by decide) λvy y j h3 A3 L T W p=>?_)))))))))));obtain⟨ey,ny⟩:=f7 y j;refine ab ey (ax (FH (by decide:3<=aN) rfl (aX rfl) (aX rfl) ⟨aX rfl,aY (er (er (aB rfl (aS (ni (eC (bM (kS _) 0x7f42405137b3 rfl H)) (bY (by decide) (by decide)) (er (aS (er ?_))))))))⟩));refine aS (w_call (av (Z (iS p) (aB rfl (av (aS (ax (vP (n:=n+8) L T W (((bM (kS _) 0x1131131137003e85137001f45 rfl s):S.spot+1+1+1<=1000)) (by decide) λv r m2 h4 A4 R4 B4 F4 t=>?_))))))));refine pW (bY (by decide) (by decide)) (bY r (by lia)) (mF (bY (by decide) (by decide)) (tZ (by lia) (by omega)) (pW (bY (by lia) (by lia)) (tZ (by lia) (by lia)) ?_));have hm:((i:Int)+2)*(1-2*v)≠0:=by
  have:v=0\/v=1:=by lia
  clear m2 r;rcases this with rfl |rfl<;>lia
 refine⟨aX rfl,Z (iS t) (e1 (w_call (av (aB rfl (av (aB rfl (av (aB rfl (av (aB rfl (av ?_)))))))))))⟩;exact aB rfl (av (aB rfl (ax (done R4 B4 F4 (bM (kS _) 0x7c3137b3 rfl H) (bM (kS _) 0x7644137a3 rfl N) d0 w nx ny hm λh5 A5 M5 S5 c5 R5 D5 u e5=>Z (iS u) (Bu R5 D5 (bM (kS _) 0x1137c3137b3 rfl H) Q λh6 A6 M6 S6 c6 J R6 B6 F6 n6 s6 e6 d9=>q _ _ _ _ _ _ R6 B6 F6 n6 (((((l.trans o).trans p).trans t:fv A A4).trans u).trans s6) (Z e6 (Z e5 rfl)) d9)))))
inductive JL(m:Nat)(cs:List Int)(x x8:Option V)(l:List V)(J:aV)(h:Hp):Prop
 |mk (A:AH) (i:Nat) (M:Hs) (S:Ls) (c:mc) (x9:Option V) (e:l=((L3 m).map λ(i:Nat)=>V.int i).drop i) (d9:Be A x (U (.int m)) x8 x9 J) (R:AR h A) (B:LB i A cs M S c) (F:LF M S c) (n:M.a4.length<=10) (s:S.spot<=10+4*i)
theorem Js(R:AR h A)(B:LB 0 A cs M S c)(F:LF M S c)(N:M.a4.length<=10)(P:S.spot<=10){m:Nat}(H:m<=9){j X:Option V}(q:∀h,Q (.bool true) h):
  St.bh G1 (lw (n+9)) (lJ.body.drop 7) (BJ A j (U (.int m)) x8 x9 x10 x X a b d f) (Fl.cU Q) h:=by
 refine⟨LO m,MS.mpr (KQ H (by decide)),ab (i2 m) (iz (JL m cs j x8) ?_ (λJ o _=>⟨_,_,.refl,q o⟩) _ ⟨A,0,M,S,c,x9,rfl,.mk ..,R,B,F,N,P⟩)⟩;intro v l J o K I k;obtain⟨A1,i,M1,S1,c1,y9,e,d9,r,t,u,w,s⟩:=I;have g:=f8 e.symm;have p:i<=8:=RO (Li g.1 H);induction d9;exact⟨aX rfl,Z g.2.1 (C2 (n:=n) r t u w (KQ p (by decide)) (KQ s (KQ (L2 (NG 4 (KQ p (by decide:8<=10))) 10:10+4*i<=50) (by decide))) (λJ h=>⟨_,_,.refl,q h⟩) λh2 y z C D J E G L T s2 W d9=>k _ _ ⟨y,i+1,z,C,D,_,g.2.2,d9,E,G,L,T,KQ (K2 W) (Nat.add_le_add_right s 4)⟩)⟩
end
structure j8(A:AH)(fs:List (String×V))(ops a s d:List V)(es:List (bQ×V)):Prop where
 bn:A.st 31 0=bN
 self:A.o 31 0=U (.dS fs)
 f2:bc fs "term_ops"=U (.ref (A.R 32 0))
 f3:bc fs "term_args"=U (.ref (A.R 33 0))
 f4:bc fs "term_sorts"=U (.ref (A.R 34 0))
 f5:bc fs "term_datas"=U (.ref (A.R 35 0))
 f6:bc fs "numbers"=U (.ref (A.R 36 0))
 o2:A.o 32 0=U (.list ops)
 o3:A.o 33 0=U (.list a)
 o4:A.o 34 0=U (.list s)
 o5:A.o 35 0=U (.list d)
 o6:A.o 36 0=U (.dN es)
 l2:ops.length<=100
 l3:a.length<=100
 l4:s.length<=100
 l5:d.length<=100
 l6:es.length<=100
noncomputable def pB(k:Nat):Bool:=LS k 32||LS 36 k
variable {es:List (bQ×V)}
section
variable {fs:List (String×V)} {ops Ur Ut Us:List V}
theorem jQ{v:V}{P:V->Prop}(R:AR h A)(b:A.st 31 0=bN)(o:A.o 31 0=U (.dS fs))(e:bc fs f=U v)(q:P v):bB (ai.bC h ⟨31,0,bN⟩) (tX f P):=by have:=Bm R o e q;rwa[show A.R 31 0=⟨31,0,bN⟩ from congrArg (cq.mk 31 0) b] at this
theorem mH{k:Nat}(R:AR h A)(e:A.o k t=U (.dN es)):kindOf h (.ref (A.R k t))=U false:=qW (R.dN e)
theorem A6{k:Nat}{i:bQ}(R:AR h A)(e:A.o k t=U (.dN es))(H:gC x=U i)(q:Q ((bc es i).getD d) h):ih h (.ref (A.R k t)) "get" [x,d] Q:=j5 (R.dN e) (ab H ⟨rfl,q⟩:bB (gC x) _)
theorem Fv{k:Nat}{i:bQ}{P:Hp->Prop}(R:AR h A)(e:A.o k t=U (.dN es))(H:gC x=U i)(l:es.length<aN)(q:∀h',AR h' (A.set k t (.dN (bA es i v)))->P h'):gy h (.ref (A.R k t)) x v P:=kf (R.dN e) (ab H ⟨l,q _ (R.set e rfl)⟩)
theorem iy{K b:Type}[DecidableEq K]:∀(es:List (K×b)) (k:K) (v:b),(bA es k v).length<=es.length+1
 |[],_,_=>K9 _
 |(a,w)::r,k,v=>by
  refine(?_ :(if a=k then(a,v)::r else(a,w)::bA r k v).length<=_);split;·exact LN _
  ·exact Lp (iy r k v)
theorem kO(R:AR h A)(B:j8 A fs ops Ur Ut Us es){op a s d:V}{key:bQ}(K:gC (.aA [op,a,s,d])=U key)(N:bc es key=KT)(l:ops.length<100)(L:Ur.length<100)(b:Ut.length<100)(c:Us.length<100)(e:es.length<100)
  (q:∀h' A',AR h' A'->j8 A' fs (ops++[op]) (Ur++[a]) (Ut++[s]) (Us++[d]) (bA es key (.int ops.length))->Fr pB A A'->(∀k t,A'.st k t=A.st k t)->A'.nn=A.nn->Q (.int ops.length) h'):bw (n+1) "make" [Bk,op,a,s,d] Q h:=by
 refine ab tY ⟨rfl,⟨(by decide:4<=aN),aX rfl,jQ R B.bn B.self B.f6 (ab (mH R B.o6) ⟨rfl,mH R B.o6,A6 R B.o6 K (Z N ⟨aX rfl,?_⟩)⟩)⟩⟩;have H:∀{k:Nat},k<100->k<aN:=λh=>Mx h (by decide);refine jQ R B.bn B.self B.f2 (cD R B.o2 ⟨LJ (H l),aX rfl,jQ R B.bn B.self B.f2 (ic R B.o2 (H l) λm r=>jQ r B.bn B.self B.f3 (ic (A:=A.set 32 0 _) r B.o3 (H L) λo f=>jQ f B.bn B.self B.f4 (ic (A:=(A.set 32 0 _).set 33 0 _) f B.o4 (H b) λp g=>jQ g B.bn B.self B.f5 (ic (A:=((A.set 32 0 _).set 33 0 _).set 34 0 _) g B.o5 (H c) λu i=>jQ i B.bn B.self B.f6 (Fv (A:=(((A.set 32 0 _).set 33 0 _).set 34 0 _).set 35 0 _) i B.o6 K (H e) λv j=>⟨_,_,.refl,q _ _ j ⟨B.bn,B.self,B.f2,B.f3,B.f4,B.f5,B.f6,rfl,rfl,rfl,rfl,rfl,?_,?_,?_,?_,KQ (iy _ _ _) e⟩ (.trans (.trans (.trans (.trans (.set rfl) (.set rfl)) (.set rfl)) (.set rfl)) (.set rfl)) (λ_ _=>rfl) rfl⟩)))))⟩);·exact Z KW l
 ·exact Z KW L
 ·exact Z KW b
 ·exact Z KW c
theorem zu(R:AR h A)(B:j8 A fs ops Ur Ut Us es){op a s d:V}{key:bQ}(H:gC (.aA [op,a,s,d])=U key)(N:bc es key=U (.int k))(K:k≠0)(q:Q (.int k) h):bw (n+1) "make" [Bk,op,a,s,d] Q h:=by exact ab tY ⟨rfl,⟨(by decide:4<=aN),aX rfl,jQ R B.bn B.self B.f6 (ab (mH R B.o6) ⟨rfl,mH R B.o6,A6 R B.o6 H (Z N ⟨aX rfl,js (a:=k) (b:=0) K ⟨_,_,.refl,q⟩⟩)⟩)⟩⟩
end
section
variable {fs:List (String×V)}
theorem gc(k:Nat)(t:Int){xs:List V}(R:AR h A)(l:xs.length<=aN)(q:∀h',AR h' (A.new k t A.nn (.list xs))->Q (.ref ⟨k,t,A.nn⟩) h'):newList xs Q h:=by unfold newList;have e:=R.2;have:=R.new k t (x:=.list xs) (a:=.list xs) rfl;rw[e] at this;exact⟨l,.inr ⟨k,t,Z e (q _ this)⟩⟩
theorem Ct(k:Nat)(t:Int)(R:AR h A)(q:∀h',AR h' (A.new k t A.nn (.dN []))->Q (.ref ⟨k,t,A.nn⟩) h'):dH [] [] Q h:=by have e:=R.2;have:=R.new k t (x:=.dN []) (a:=.dN []) rfl;rw[e] at this;exact .inr (.inr ⟨k,t,Z e (q _ this)⟩)
theorem mS(k:Nat)(t:Int)(u:List Int)(R:AR h A)(l:u.length<900)(q:∀h',AR h' (A.new k t A.nn (.dI u λ_=>KT))->Q (.ref ⟨k,t,A.nn⟩) h'):dH [] [] Q h:=by have e:=R.2;have:=R.new k t (x:=.dI []) (a:=.dI u λ_=>KT) ⟨[],rfl,Mw,λ_ e=>(nomatch e),l,λ_=>rfl⟩;rw[e] at this;exact .inl ⟨k,t,Z e (q _ this)⟩
theorem v5(k:Nat)(t:Int)(u:List (List Int))(R:AR h A)(l:u.length<900)(q:∀h',AR h' (A.new k t A.nn (.dP u λ_=>KT))->Q (.ref ⟨k,t,A.nn⟩) h'):dH [] [] Q h:=by have e:=R.2;have:=R.new k t (x:=.dP []) (a:=.dP u λ_=>KT) ⟨[],rfl,Mw,λ_ e=>(nomatch e),l,λ_=>rfl⟩;rw[e] at this;exact .inr (.inl ⟨k,t,Z e (q _ this)⟩)
theorem lz{P:Hp->Prop}(R:AR h A)(b:A.st 31 0=bN)(o:A.o 31 0=U (.dS fs))(l:fs.length<900)(q:∀h',AR h' (A.set 31 0 (.dS (bA fs f v)))->P h'):bB (ai.bC h ⟨31,0,bN⟩) (BF ⟨31,0,bN⟩ f v P h):=by have:=gx R o l rfl q;rwa[show A.R 31 0=⟨31,0,bN⟩ from congrArg (cq.mk 31 0) b] at this
theorem fg{P:Prop}(R:AR h A)(b:A.st 31 0=bN)(o:A.o 31 0=U (.dS fs))(e:bc fs m=KT)(g:G1 ("Bank"++"."++m)=U .none)(q:P):(bB (ai.bC h ⟨31,0,bN⟩) (Ge m))/\bB (G1 ("Bank"++"."++m)) (sH P):=by refine⟨?_,ab g q⟩;have:=R.dS o;rw[show A.R 31 0=⟨31,0,bN⟩ from congrArg (cq.mk 31 0) b] at this;exact ab (fQ this) e
noncomputable def Gi(k:Nat):List (String×V):=[("sort_names",.fl [.str "Bool",.str "Int",.str "Real"]),("sort_widths",.fl [.int 0,.int 0,.int 0]),("fun_names",.ref ⟨37,0,k⟩),("fun_args",.ref ⟨38,0,k+1⟩),("fun_results",.ref ⟨39,0,k+2⟩),("fresh_count",.int 0),("term_ops",.ref ⟨32,0,k+3⟩),("term_args",.ref ⟨33,0,k+4⟩),("term_sorts",.ref ⟨34,0,k+5⟩),("term_datas",.ref ⟨35,0,k+6⟩),("numbers",.ref ⟨36,0,k+7⟩)]
noncomputable def v3(k:Nat):Bool:=LS k 31||LS 39 k
theorem y2(R:AR h A)(E:(J[0]?).join=U Bk)(B:j8 A (Gi k) [.str ""] [.aA []] [.int 0] [.int 0] [])(F:Fr v3 A0 A)(N:A.nn=k+8)(o:A.st 37 0=k)(u:A.st 38 0=k+1)(v:A.st 39 0=k+2)(w:A.o 37 0=U (.list []))(x:A.o 38 0=U (.list []))(y:A.o 39 0=U (.list []))
  (q:∀h' A',AR h' A'->j8 A' (Gi k++[("true_number",.int 1),("false_number",.int 2)]) [.str "",.str "true",.str "false"] [.aA [],.aA [],.aA []] [.int 0,.int 0,.int 0] [.int 0,.int 0,.int 0] [(⟨"true",[],0,.int 0⟩,.int 1),(⟨"false",[],0,.int 0⟩,.int 2)]->
   Fr v3 A0 A'->A'.nn=k+8->A'.st 37 0=k->A'.st 38 0=k+1->A'.st 39 0=k+2->A'.o 37 0=U (.list [])->A'.o 38 0=U (.list [])->A'.o 39 0=U (.list [])->Q .none h'):
  St.bh G1 (a5 G1 T1 (n+1)) (iJ.body.drop 11) J (Fl.cU Q) h:=by
 have p:∀k,v3 k=true->pB k=true:=by intro k e;unfold v3 at e;unfold pB;simp only[MA,Nc] at*;lia
 refine aY (ab E (fg R B.bn B.self rfl gv (av (aS (av (dw (ax ⟨Lf _,kO R B (op:=.str "true") (a:=.aA []) (s:=.int 0) (d:=.int 0) (key:=⟨"true",[],0,.int 0⟩) rfl rfl (by decide) (by decide) (by decide) (by decide) (by decide) λL j z b l S C=>ab E (lz z b.bn b.self (aX rfl) λM r=>?_)⟩)))))));have g:j8 (j.set 31 0 (.dS (bA (Gi k) "true_number" (.int 1)))) (Gi k++[("true_number",.int 1)]) _ _ _ _ _:=⟨b.bn,rfl,b.f2,b.f3,b.f4,b.f5,b.f6,b.o2,b.o3,b.o4,b.o5,b.o6,b.l2,b.l3,b.l4,b.l5,b.l6⟩;refine aY (ab E (fg r g.bn g.self rfl gv (av (aS (av (dw (ax ⟨Lf _,kO r g (op:=.str "false") (a:=.aA []) (s:=.int 0) (d:=.int 0) (key:=⟨"false",[],0,.int 0⟩) rfl rfl (by decide) (by decide) (by decide) (by decide) (by decide) λP D G c m i H=>ab E (lz G c.bn c.self (aX rfl) λT I=>?_)⟩)))))));have f:∀k t,pB k=true->k≠31->D.o k t=A.o k t:=λk t e K=>by exact Z ((m k t e).1) ((Z (if_neg λq=>K q.1) ((l k t e).1)):(if k=31/\t=0 then _ else j.o k t)=_)
 refine q _ _ I ⟨c.bn,rfl,c.f2,c.f3,c.f4,c.f5,c.f6,c.o2,c.o3,c.o4,c.o5,c.o6,c.l2,c.l3,c.l4,c.l5,c.l6⟩ (F.trans ((l.bT p).trans (.trans (.set rfl) ((m.bT p).trans (.set rfl))))) (H.trans (C.trans N)) ((i _ _).trans ((S _ _).trans o)) ((i _ _).trans ((S _ _).trans u)) ((i _ _).trans ((S _ _).trans v)) ((f 37 0 rfl (by decide)).trans w) ((f 38 0 rfl (by decide)).trans x) ((f 39 0 rfl (by decide)).trans y)
theorem yz(R:AR h A)(b:A.st 31 0=bN)(o:A.o 31 0=U (.dS []))(q:∀h' A',AR h' A'->j8 A' (Gi A.nn++[("true_number",.int 1),("false_number",.int 2)]) [.str "",.str "true",.str "false"] [.aA [],.aA [],.aA []] [.int 0,.int 0,.int 0] [.int 0,.int 0,.int 0] [(⟨"true",[],0,.int 0⟩,.int 1),(⟨"false",[],0,.int 0⟩,.int 2)]->
   Fr v3 A A'->A'.nn=A.nn+8->A'.st 37 0=A.nn->A'.st 38 0=A.nn+1->A'.st 39 0=A.nn+2->A'.o 37 0=U (.list [])->A'.o 38 0=U (.list [])->A'.o 39 0=U (.list [])->Q .none h'):bw (n+2) "__init__" [Bk] Q h:=by
 refine ab ((by kernel_rfl:T1 ("Bank"++"."++"__init__")=U iJ)) ⟨rfl,aY (bz (by refine(?_ :3<=aN);decide) ?_)⟩;refine lz R b o (aX rfl) λK m=>aY (bz (by refine(?_ :3<=aN);decide) ?_);refine lz m b rfl (aX rfl) λL p=>aY (gc 37 0 p (Lf _) λM s=>lz s b rfl (aX rfl) λN t=>aY (gc 38 0 t (Lf _) λP u=>lz u b rfl (aX rfl) λS v=>aY ?_));refine gc 39 0 v (Lf _) λT w=>lz w b rfl (aX rfl) λV x=>aY (aS (lz x b rfl (aX rfl) λW y=>aY (gc 32 0 (xs:=[.str ""]) y (by refine(?_ :1<=aN);decide) λH r=>?_)));refine lz r b rfl (aX rfl) λz a=>aY ⟨Lf _,gc 33 0 (xs:=[.aA []]) a (by refine(?_ :1<=aN);decide) λB c=>?_⟩;refine lz c b rfl (aX rfl) λC d=>aY (gc 34 0 (xs:=[.int 0]) d (by refine(?_ :1<=aN);decide) λD e=>?_);refine lz e b rfl (aX rfl) λE f=>aY (gc 35 0 (xs:=[.int 0]) f (by refine(?_ :1<=aN);decide) λF g=>?_);refine lz g b rfl (aX rfl) λG i=>aY (d0 (Ct 36 0 i λI j=>lz j b rfl (aX rfl) λJ l=>y2 (A0:=A) (k:=A.nn) l rfl ⟨b,rfl,rfl,rfl,rfl,rfl,rfl,rfl,rfl,rfl,rfl,rfl,by decide,by decide,by decide,by decide,by decide⟩ ?_ rfl rfl rfl rfl rfl rfl rfl q))
 repeat first |exact Fr.refl |refine Fr.trans ?_ (Fr.set rfl) |refine Fr.trans ?_ (Fr.new rfl)
end
noncomputable def Fp(k:Nat):List (String×V):=Gi k++[("true_number",.int 1),("false_number",.int 2)]
structure ed(A:AH)(k:Nat)(nm fa fr ops a s d:List V)(es:List (bQ×V)):Prop where
 B:j8 A (Fp k) ops a s d es
 s7:A.st 37 0=k
 s8:A.st 38 0=k+1
 s9:A.st 39 0=k+2
 o7:A.o 37 0=U (.list nm)
 o8:A.o 38 0=U (.list fa)
 o9:A.o 39 0=U (.list fr)
section
variable {k:Nat} {nm fa fr ops Ur Ut Us:List V}
theorem H8(k:Nat)(e:v3 k=true):pB k=true:=by unfold v3 at e;unfold pB;simp only[MA,Nc] at*;lia
theorem wI(R:AR h A)(G:ed A k nm fa fr ops Ur Ut Us es){name r:V}(l:nm.length<50)(f:fa.length<50)(L:fr.length<50)
  (q:∀h' A',AR h' A'->ed A' k (nm++[name]) (fa++[.aA as]) (fr++[r]) ops Ur Ut Us es->Fr v3 A A'->A'.nn=A.nn->Q (.int nm.length) h'):bw (n+1) "declare_fun" [Bk,name,.aA as,r] Q h:=by
 obtain⟨B,s,S,c,o,i,j⟩:=G;have g:bc (Fp k) "fun_names"=U (.ref (A.R 37 0)):=((Z s rfl):U (V.ref ⟨37,0,k⟩)=U (V.ref ⟨37,0,A.st 37 0⟩));have m:bc (Fp k) "fun_args"=U (.ref (A.R 38 0)):=((Z S rfl):U (V.ref ⟨38,0,k+1⟩)=U (V.ref ⟨38,0,A.st 38 0⟩));have u:bc (Fp k) "fun_results"=U (.ref (A.R 39 0)):=((Z c rfl):U (V.ref ⟨39,0,k+2⟩)=U (V.ref ⟨39,0,A.st 39 0⟩));have H:∀{k:Nat},k<50->k<aN:=λh=>Mx h (by decide);refine ab ((by kernel_rfl:T1 ("Bank"++"."++"declare_fun")=U ea)) ⟨rfl,jQ R B.bn B.self g (ic R o (H l) λv a=>jQ a B.bn B.self m ?_)⟩;have p:(A.set 37 0 (.list (nm++[name]))).o 38 0=U (.list fa):=i;refine ab (aq (A:=A.set 37 0 _) a p) ⟨rfl,⟨aq (A:=A.set 37 0 _) a p,bJ (A:=A.set 37 0 _) a p (H f) λw d=>jQ d B.bn B.self u (ic (A:=(A.set 37 0 _).set 38 0 _) d (j:((A.set 37 0 (.list (nm++[name]))).set 38 0 (.list (fa++[.aA as]))).o 39 0=U (.list fr)) (H L) λx b=>jQ b B.bn B.self g (cD (A:=((A.set 37 0 _).set 38 0 _).set 39 0 _) (k:=37) (t:=0) b rfl ⟨Z KW (KQ (Ox l) (by decide)),?_⟩))⟩⟩
 ·refine aS (mF (eC (Z KW (KQ (Ox l) (by decide)))) (bY (by decide) (by decide)) ?_)
  have e:(((nm++[name]).length:Nat):Int)-1=nm.length:=by refine Z KW (?_ :((nm.length+1:Nat):Int)-1=_);lia
  exact Z e (⟨_,_,.refl,q _ _ b ⟨⟨B.bn,B.self,B.f2,B.f3,B.f4,B.f5,B.f6,B.o2,B.o3,B.o4,B.o5,B.o6,B.l2,B.l3,B.l4,B.l5,B.l6⟩,s,S,c,rfl,rfl,rfl⟩ (.trans (.trans (.set rfl) (.set rfl)) (.set rfl)) rfl⟩)
theorem wy(R:AR h A)(G:ed A k nm fa fr ops Ur Ut Us es){op a s d:V}{key:bQ}(H:gC (.aA [op,a,s,d])=U key)(N:bc es key=KT)(l:ops.length<100)(L:Ur.length<100)(b:Ut.length<100)(c:Us.length<100)(e:es.length<100)
  (q:∀h' A',AR h' A'->ed A' k nm fa fr (ops++[op]) (Ur++[a]) (Ut++[s]) (Us++[d]) (bA es key (.int ops.length))->Fr v3 A A'->A'.nn=A.nn->Q (.int ops.length) h'):bw (n+1) "make" [Bk,op,a,s,d] Q h:=by
 refine kO R G.B H N l L b c e λh' A' r B f s' g=>q h' A' r ⟨B,(s' _ _).trans G.s7,(s' _ _).trans G.s8,(s' _ _).trans G.s9,(f 37 0 rfl).1.trans G.o7,(f 38 0 rfl).1.trans G.o8,(f 39 0 rfl).1.trans G.o9⟩ (f.bT H8) g
theorem fresh(R:AR h A)(G:ed A k nm fa fr ops Ur Ut Us es){name:V}(l:nm.length<50)(b:fa.length<50)(L:fr.length<50)(H:bc es ⟨"app",[],1,.int nm.length⟩=KT)(c:ops.length<100)(d:Ur.length<100)(e:Ut.length<100)(f:Us.length<100)(i:es.length<100)
  (q:∀h' A',AR h' A'->ed A' k (nm++[name]) (fa++[.aA []]) (fr++[.int 1]) (ops++[.str "app"]) (Ur++[.aA []]) (Ut++[.int 1]) (Us++[.int nm.length]) (bA es ⟨"app",[],1,.int nm.length⟩ (.int ops.length))->Fr v3 A A'->A'.nn=A.nn->Q (.int ops.length) h'):
  bw (n+2) "fresh_const" [Bk,name,.int 1] Q h:=by
 refine ab ((by kernel_rfl:T1 ("Bank"++"."++"fresh_const")=U d')) ⟨rfl,fg R G.B.bn G.B.self rfl gv (av (aS (av (dw (ax ⟨Lf _,av (aB rfl (av (fg R G.B.bn G.B.self rfl ((by kernel_rfl:G1 ("Bank"++"."++"declare_fun")=U .none)) (av (aB rfl (av (dw (ax ⟨Lf _,av (aB rfl (ax (wI R G l b L λt u r g F N=>ax ?_)))⟩))))))))⟩)))))⟩;exact wy r g (op:=.str "app") (a:=.aA []) (s:=.int 1) (key:=⟨"app",[],1,.int nm.length⟩) rfl H c d e f i λv w j m o p=>⟨_,_,.refl,q _ _ j m (F.trans o) (p.trans N)⟩
end
section
variable {k:Nat}
noncomputable def CF:List V:=[.str "",.str "true",.str "false"]
noncomputable def D5:List (bQ×V):=[(⟨"true",[],0,.int 0⟩,.int 1),(⟨"false",[],0,.int 0⟩,.int 2),(⟨"app",[],1,.int 1⟩,.int 3),(⟨"app",[],1,.int 2⟩,.int 4),(⟨"app",[],1,.int 3⟩,.int 5),(⟨"app",[],1,.int 4⟩,.int 6),(⟨"num",[],1,.gJ [0,1]⟩,.int 7),(⟨"num",[],1,.gJ [1,1]⟩,.int 8),(⟨"app",[3],1,.int 0⟩,.int 9),(⟨"app",[4],1,.int 0⟩,.int 10),(⟨"app",[5],1,.int 0⟩,.int 11)]
noncomputable def yi:List V:=[.int 0,.int 0,.int 0,.int 1,.int 1,.int 1,.int 1,.int 1,.int 1,.int 1,.int 1,.int 1]
noncomputable def Ig:List (bQ×V):=[(⟨"true",[],0,.int 0⟩,.int 1),(⟨"false",[],0,.int 0⟩,.int 2)]
noncomputable def JS:List (bQ×V):=Ig++[(⟨"app",[],1,.int 1⟩,.int 3),(⟨"app",[],1,.int 2⟩,.int 4),(⟨"app",[],1,.int 3⟩,.int 5),(⟨"app",[],1,.int 4⟩,.int 6)]
theorem Ix{P:PV}(H:J.length=7)(i:(J[0]?).join=U Bk)(R:AR h A)(G:ed A k [.str "f"] [.aA [.int 1]] [.int 1] CF [.aA [],.aA [],.aA []] [.int 0,.int 0,.int 0] [.int 0,.int 0,.int 0] Ig)
  (q:∀h' A' nm fa fr,AR h' A'->ed A' k nm fa fr (CF++[.str "app",.str "app",.str "app",.str "app"]) [.aA [],.aA [],.aA [],.aA [],.aA [],.aA [],.aA []] [.int 0,.int 0,.int 0,.int 1,.int 1,.int 1,.int 1] [.int 0,.int 0,.int 0,.int 1,.int 2,.int 3,.int 4] JS->Fr v3 A A'->A'.nn=A.nn->P (.fl (ae [3,4,5,6])) h'):
  ai.Ex.wp G1 (lw (n+3)) (.comp (.az (.var 0) "fresh_const" [.var 6,.c4 "INT"]) 6 (.aA [.aE (.str "a"),.aE (.str "b"),.aE (.str "c"),.aE (.str "d")]) (.none)) J P h:=by
 have e:∀v,((J.set 6 v)[0]?).join=U Bk:=λv=>Z (d6 (by decide)) i;have E:∀v,((J.set 6 (U v))[6]?).join=U v:=λv=>by refine Z (hh (by refine Z H ?_;decide)) ?_;rfl
 have f:G1 ("Bank"++"."++"fresh_const")=U .none:=by kernel_rfl
 refine⟨(by decide:4<=aN),5,ab (e _) (fg R G.B.bn G.B.self rfl f (ab (E _) (fresh R G (by decide) (by decide) (by decide) rfl (by decide) (by decide) (by decide) (by decide) (by decide) λw x r g F N=>⟨by decide,ab (e _) (fg r g.B.bn g.B.self rfl f (ab (E _) (fresh r g (by decide) (by decide) (by decide) rfl (by decide) (by decide) (by decide) (by decide) (by decide) λy z c a j l=>⟨by decide,ab (e _) (fg c a.B.bn a.B.self rfl f (ab (E _) (fresh c a (by decide) (by decide) (by decide) rfl (by decide) (by decide) (by decide) (by decide) (by decide) λB C d b m o=>⟨by decide,ab (e _) (fg d b.B.bn b.B.self rfl f (ab (E _) ?_))⟩)))⟩)))⟩)))⟩;refine fresh d b (by decide) (by decide) (by decide) rfl (by decide) (by decide) (by decide) (by decide) (by decide) λD I p s t u=>⟨by decide,bz (by refine(?_ :4<=aN);decide) (q _ _ _ _ _ p s (((F.trans j).trans m).trans t) (((u.trans o).trans l).trans N))⟩
noncomputable def J':List (bQ×V):=JS++[(⟨"num",[],1,.gJ [0,1]⟩,.int 7),(⟨"num",[],1,.gJ [1,1]⟩,.int 8)]
noncomputable def Gh(k:Nat):Bool:=LS k 31||(LS 39 k&&(!(Ly k 41)&&!(Ly k 43)))
theorem D8(k:Nat)(e:Gh k=true):v3 k=true:=by unfold Gh at e;unfold v3;simp only[MA,LL,Nc] at*;lia
theorem JH{J:aV}{P:PV}{nm fa fr ops b S D:List V}{es:List (bQ×V)}{i:Nat}{x:Int}{xs:List V}(p:J.length=7)(e:(J[0]?).join=U Bk)(E:(J[1]?).join=U (.int 0))(c:(J[2]?).join=U (.ref (A.R 43 0)))(f:(J[4]?).join=U (.int i))(R:AR h A)(G:ed A k nm fa fr ops b S D es)(o:A.o 43 0=U (.list xs))(H:xs[i]? =U (.int x))
  (N:bc es ⟨"app",[x],1,.int 0⟩=KT)(l:ops.length<100)(L:b.length<100)(g:S.length<100)(j:D.length<100)(m:es.length<100)
  (q:∀h' A',AR h' A'->ed A' k nm fa fr (ops++[.str "app"]) (b++[.aA [.int x]]) (S++[.int 1]) (D++[.int 0]) (bA es ⟨"app",[x],1,.int 0⟩ (.int ops.length))->Fr v3 A A'->A'.nn=A.nn->P (.int ops.length) h'):
  ai.Ex.wp G1 (lw (n+3)) (.az (.var 0) "make" [.aE (.str "app"),.aA [.sub (.var 2) (.var 4)],.c4 "INT",.var 1]) J P h:=by
 exact ab e (fg R G.B.bn G.B.self rfl gv (av (aS (av (dw (av (eV (aB c (aB f (jX R o (Z (hU _ _) H) (ax ⟨(by decide:1<=aN),av (ab (a:=V.int 1) (show G1 "INT"=_ from by kernel_rfl) (av (aB E (ax (wy R G (op:=.str "app") (a:=.aA [.int x]) (s:=.int 1) (d:=.int 0) (key:=⟨"app",[x],1,.int 0⟩) rfl N l L g j m q)))))⟩)))))))))))
noncomputable def Ip(k:Nat):Bool:=LS 30 k&&LS k 40
theorem ed.fr{fa fr ops a s d:List V}(G:ed A k nm fa fr ops a s d es)(f:Fr Ip A A'):ed A' k nm fa fr ops a s d es:=by
 obtain⟨B,b,c,g,h,i,j⟩:=G;have o:∀k,Ip k=true->A'.o k 0=A.o k 0:=λk e=>(f k 0 e).1;have S:∀k,Ip k=true->A'.st k 0=A.st k 0:=λk e=>(f k 0 e).2.1;have r:∀k,Ip k=true->A'.R k 0=A.R k 0:=λk e=>cL f e;exact⟨⟨(S 31 rfl).trans B.bn,(o 31 rfl).trans B.self,by refine Z (r 32 rfl) ?_;exact B.f2,by refine Z (r 33 rfl) ?_;exact B.f3,by refine Z (r 34 rfl) ?_;exact B.f4,by refine Z (r 35 rfl) ?_;exact B.f5,by refine Z (r 36 rfl) ?_;exact B.f6,(o 32 rfl).trans B.o2,(o 33 rfl).trans B.o3,(o 34 rfl).trans B.o4,(o 35 rfl).trans B.o5,(o 36 rfl).trans B.o6,B.l2,B.l3,B.l4,B.l5,B.l6⟩,
  (S 37 rfl).trans b,(S 38 rfl).trans c,(S 39 rfl).trans g,(o 37 rfl).trans h,(o 38 rfl).trans i,(o 39 rfl).trans j⟩
theorem Ff{J:aV}{P:PS}{nm fa fr ops a s d:List V}{es:List (bQ×V)}{g:Int->Option V}{i:Nat}{x:Int}{xs:List V}(H:J.length=7)(p:(J[0]?).join=U Bk)(t:(J[1]?).join=U (.int 0))(E:(J[2]?).join=U (.ref (A.R 43 0)))(u:(J[3]?).join=U (.ref (A.R 41 0)))(j:(J[4]?).join=U (.int i))(R:AR h A)(G:ed A k nm fa fr ops a s d es)(o:A.o 43 0=U (.list xs))(I:A.o 41 0=U (.dI ar g))(X:xs[i]? =U (.int x))(L:xs.length<50)
  (N:bc es ⟨"app",[x],1,.int 0⟩=KT)(w:ops.length<100)(y:a.length<100)(z:s.length<100)(B:d.length<100)(C:es.length<100)(D:aj (ops.length:Int))
  (q:∀h' A',AR h' A'->ed A' k nm fa fr (ops++[.str "app"]) (a++[.aA [.int x]]) (s++[.int 1]) (d++[.int 0]) (bA es ⟨"app",[x],1,.int 0⟩ (.int ops.length))->A'.o 43 0=U (.list (xs++[.int ops.length]))->A'.o 41 0=U (.dI ar (ft g ops.length (U (.int x))))->Fr Gh A A'->A'.nn=A.nn->A'.R 43 0=A.R 43 0->A'.R 41 0=A.R 41 0->P .next (J.set 5 (U (.int ops.length))) h'):
  St.bh G1 (lw (n+3)) [.a8 (.var 5) (.az (.var 0) "make" [.aE (.str "app"),.aA [.sub (.var 2) (.var 4)],.c4 "INT",.var 1]),.a8 (.sub (.var 3) (.var 5)) (.sub (.var 2) (.var 4)),.expr (.az (.var 2) "append" [.var 5])] J P h:=by
 refine aY (JH H p t E j R G o X N w y z B C λT b l e f F=>⟨by refine Z H ?_;decide,?_⟩);have c:=(f 43 0 rfl).1.trans o;have S:∀v,((J.set 5 v)[2]?).join=U (.ref (b.R 43 0)):=λv=>Z (d6 (by decide)) (Z (cL f rfl) E);have K:∀v,((J.set 5 v)[3]?).join=U (.ref (b.R 41 0)):=λv=>Z (d6 (by decide)) (Z (cL f rfl) u);have M:∀v,((J.set 5 v)[4]?).join=U (.int i):=λv=>Z (d6 (by decide)) j;have m:∀v,((J.set 5 (U v))[5]?).join=U v:=λv=>by refine Z (hh (by refine Z H ?_;decide)) ?_;rfl
 exact aY (eV (aB (S _) (aB (M _) (jX l c (Z (hU _ _) X) (gg (aB (K _) (aB (m _) (cF l ((f 41 0 rfl).1.trans I) (aR D) λW r=>ab (S _) (ab (aq (A:=b.set 41 0 _) r c) ⟨rfl,ab (m _) ⟨aq (A:=b.set 41 0 _) r c,bJ (A:=b.set 41 0 _) r c (Mx L (by decide)) λh3 Q=>q _ _ Q (e.fr (.trans (.set rfl) (.set rfl))) rfl rfl ((f.bT D8).trans (.trans (.set rfl) (.set rfl))) F (cL f rfl:b.R 43 0=_) (cL f rfl:b.R 41 0=_)⟩⟩)))))))))
theorem H3(R:AR h A)(G:ed A k [] [] [] CF [.aA [],.aA [],.aA []] [.int 0,.int 0,.int 0] [.int 0,.int 0,.int 0] Ig)
  (q:∀h' A' nm fa fr,AR h' A'->ed A' k nm fa fr (hW 0) (ez []) yi (dU 0) D5->A'.o 41 0=U (.dI ar λt=>(ai.M.arg t).map V.int)->A'.st 41 0=A.nn+1->Fr Gh A A'->A'.nn=A.nn+2->Q (.aA [.fl (ae ar),.ref (A'.R 41 0)]) h'):lw (n+4) "_law_terms" [Bk] Q h:=by
 refine ab t9 ⟨rfl,aY (fg R G.B.bn G.B.self rfl ((by kernel_rfl:G1 ("Bank"++"."++"declare_fun")=U .none)) (av (aS (av (dw ⟨by decide,wI R G (name:=.str "f") (as:=[.int 1]) (r:=.int 1) (by decide) (by decide) (by decide) λh1 A1 C j F D=>⟨aX rfl,aY (Ix (n:=n) rfl rfl C j λh2 A2 nm fa fr o l E H=>⟨aX rfl,?_⟩)⟩⟩)))))⟩;refine aY (er (aB rfl (fg o l.B.bn l.B.self rfl gv (av (aS (av (dw (ax ⟨Lf _,⟨by decide,wy o l (op:=.str "num") (a:=.aA []) (s:=.int 1) (d:=.aA [.int 0,.int 1]) (key:=⟨"num",[],1,.gJ [0,1]⟩) rfl rfl (by decide) (by decide) (by decide) (by decide) (by decide) λh3 A3 p m I J=>fg p m.B.bn m.B.self rfl gv (av (aS (av (dw (ax ⟨Lf _,⟨by decide,?_⟩⟩)))))⟩⟩))))))));refine wy p m (op:=.str "num") (a:=.aA []) (s:=.int 1) (d:=.aA [.int 1,.int 1]) (key:=⟨"num",[],1,.gJ [1,1]⟩) rfl rfl (by decide) (by decide) (by decide) (by decide) (by decide) λh4 f K L M P=>ax (bz (by decide) ⟨by decide,by decide,gc 43 0 (xs:=ae [3,4,5,6,7,8]) K (by decide) λh5 S=>⟨aX rfl,aY (d0 (mS 41 0 ar S (aX rfl) λh6 T=>⟨aX rfl,⟨by decide,by decide,ab (a:=It.bo [.int 0,.int 1,.int 2]) rfl ⟨4,⟨aX rfl,Ff (n:=n) (i:=0) (x:=3) rfl rfl rfl rfl rfl rfl T (L.fr (.trans (.new rfl) (.new rfl))) rfl rfl rfl (by decide) rfl (by decide) (by decide) (by decide) (by decide) (by decide) (by decide) λh7 u X G7 o7 i7 F7 n7 r7 t7=>⟨aX rfl,?_⟩⟩⟩⟩⟩))⟩⟩);have v:U (V.ref (((f.new 43 0 f.nn (.list (ae [3,4,5,6,7,8]))).new 41 0 (f.nn+1) (.dI ar λ_=>KT)).R 43 0))=U (V.ref (u.R 43 0)):=congrArg (λr=>U (V.ref r)) r7.symm;have w:U (V.ref (((f.new 43 0 f.nn (.list (ae [3,4,5,6,7,8]))).new 41 0 (f.nn+1) (.dI ar λ_=>KT)).R 41 0))=U (V.ref (u.R 41 0)):=congrArg (λr=>U (V.ref r)) t7.symm;refine Ff (n:=n) (i:=1) (x:=4) rfl rfl rfl v w rfl X G7 o7 i7 rfl (by decide) rfl (by decide) (by decide) (by decide) (by decide) (by decide) (by decide) λh8 A8 R8 G8 o8 i8 F8 n8 r8 t8=>⟨aX rfl,?_⟩;have y:=v.trans (congrArg (λr=>U (V.ref r)) r8.symm);have z:=w.trans (congrArg (λr=>U (V.ref r)) t8.symm);refine Ff (n:=n) (i:=2) (x:=5) rfl rfl rfl y z rfl R8 G8 o8 i8 rfl (by decide) rfl (by decide) (by decide) (by decide) (by decide) (by decide) (by decide) λh9 g B G9 o9 i9 F9 n9 r9 aa=>?_;have w2:=y.trans (congrArg (λr=>U (V.ref r)) r9.symm);have W:=z.trans (congrArg (λr=>U (V.ref r)) aa.symm);refine rt (dw (a2 w2 W ⟨(by decide:2<=aN),⟨_,_,.fst (B.ip o9) (λe=>?_),?_⟩⟩));·exact absurd (congrArg cq.k (V.ref.inj e)) (by refine(?_ :¬(41:Nat)=43);decide)
 ·have ei:ft (ft (ft (λ_=>KT) 9 (U (V.int 3))) 10 (U (.int 4))) 11 (U (.int 5))=λt=>(ai.M.arg t).map V.int:=by
   funext t;refine(?_ :(if t=11 then _ else if t=10 then _ else if t=9 then _ else _)=(if t=9 then U 3 else if t=10 then U 4 else if t=11 then U 5 else KT:Option Int).map V.int);by_cases a:t=9;·subst a;rfl
   ·by_cases b:t=10
    ·clear a;subst b;rfl
    ·by_cases c:t=11
     ·clear b a;subst c;rfl
     ·refine Z (if_neg c) (Z (if_neg b) (Z (if_neg a) (Z (if_neg a) (Z (if_neg b) (Z (if_neg c) ?_)))));rfl
  have N:f.nn=A.nn:=P.trans (J.trans (H.trans D));refine q _ (md g 43 0) _ _ _ (drop B 43 0) (G9.fr (Fr.md rfl)) ((ei).symm▸(i9):g.o 41 0=U (.dI ar λt=>(ai.M.arg t).map V.int)) ((hR N ((congrArg cq.n (V.ref.inj (KP W))).symm)):g.st 41 0=A.nn+1) (((((F.trans E).trans (I.trans M)).bT D8:Fr Gh A f).trans (.trans (.new rfl) (.new rfl))).trans (((F7.trans F8).trans F9).trans (Fr.md rfl:Fr Gh g (md g 43 0)))) ?_
  ·refine(?_ :g.nn=A.nn+2)
   simp only[n9,n8,n7,<-N];rfl
end
noncomputable def oP(D:List Int)(g:Int->Option V)(t:Int):Option V:=if t∈D then g t else KT
structure aG(A:AH)(D:Nat->List Int)(M:Hs):Prop where
 cl:M.aU=KT
 sn:A.st 30 0=sN
 bn:A.st 31 0=bN
 self:A.o 30 0=U (.dS (bC A M))
 Y:A.o 1 0=U (.dI ar (oP (D 1) (hZ M.Y)))
 mem:A.o 2 0=U (.dI ar (oP (D 2) (jD A 21)))
 aM:A.o 3 0=U (.dI ar (oP (D 3) (jD A 22)))
 val:A.o 4 0=U (.dI ar (oP (D 4) (hZ M.val)))
 bl:A.o 5 0=U (.dI ar (oP (D 5) (jD A 23)))
 bK:A.o 6 0=U (.dI ar (oP (D 6) (jD A 24)))
 up:A.o 7 0=U (.dI ar λt=>(M.up t).map gU)
 bt:A.o 8 0=U (.dP iQ λt=>(M.bt t).map V.int)
 aC:A.o 9 0=U (.dI fw λt=>(M.aC t).map b')
 a7:A.o 10 0=U (.dI fw λt=>(M.a7 t).map fb)
 a4:A.o 11 0=U (.list (ae M.a4))
 aw:A.o 12 0=U (.list (M.aw.map lC))
 ak:A.o 13 0=U (.list (M.ak.map e0.v))
 am:A.o 14 0=U (.list (M.am.map λ(n:Nat)=>V.int n))
 fp:∀t∈D 2,A.o 21 t=U (.list (ae (M.mem t)))
 c8:∀t∈D 3,A.o 22 t=U (.list (ae (M.aM t)))
 ec:∀t∈D 5,A.o 23 t=U (.list (NK ii (M.bl t)))
 fW:∀t∈D 6,A.o 24 t=U (.list (ae (M.bK t)))
 fC:A.o 31 0=U (.dS (dA A))
 ops:A.o 32 0=U (.list (hW M.ce.length))
 args:A.o 33 0=U (.list (ez M.ce))
 bF:A.o 35 0=U (.list (dU M.ce.length))
theorem pA{g:Int->Option V}(h:∀t,¬aj t->g t=KT):oP ar g=g:=by
 funext t;refine(?_ :(if t∈ar then g t else KT)=g t);by_cases c:t∈ar;·exact Z (if_pos c) rfl
 ·exact Z (if_neg c) (Z (h t λn=>c (aR n)) rfl)
theorem aG.sC(P:aG A (λ_=>ar) M):ah A M:=by have a:∀f,oP ar (hZ f)=hZ f:=λf=>pA λt n=>if_neg n;have E:∀k,oP ar (jD A k)=jD A k:=λk=>pA λt n=>if_neg n;exact⟨λl e=>by replace e:=P.cl▸e;(exact al e),P.sn,P.bn,P.self,by(exact Z P.Y (Z (a _) rfl)),by(exact Z P.mem (Z (E _) rfl)),by(exact Z P.aM (Z (E _) rfl)),by(exact Z P.val (Z (a _) rfl)),by(exact Z P.bl (Z (E _) rfl)),by(exact Z P.bK (Z (E _) rfl)),P.up,P.bt,P.aC,P.a7,P.a4,P.aw,P.ak,P.am,λt n=>P.fp t (aR n),λt n=>P.c8 t (aR n),λt n=>P.ec t (aR n),λt n=>P.fW t (aR n),P.fC,P.ops,P.args,P.bF⟩
noncomputable def M0:Hs:=⟨λt=>t,λ_=>[],λ_=>[],λ_=>0,λ_=>[],λ_=>[],λ_=>KT,λ_=>KT,λ_=>KT,λ_=>KT,[],[],KT,0,[],[],[]⟩
section
variable {k:Nat} {fs:List (String×V)}
theorem F4{P:Hp->Prop}(R:AR h A)(b:A.st 30 0=sN)(o:A.o 30 0=U (.dS fs))(l:fs.length<900)(q:∀h',AR h' (A.set 30 0 (.dS (bA fs f v)))->P h'):bB (ai.bC h ⟨30,0,sN⟩) (BF ⟨30,0,sN⟩ f v P h):=by have:=gx R o l rfl q;rwa[show A.R 30 0=⟨30,0,sN⟩ from congrArg (cq.mk 30 0) b] at this
structure qR(A0 A:AH)(fs:List (String×V))(L:List (String×Nat×AO))(c:Nat):Prop where
 sn:A.st 30 0=sN
 o:A.o 30 0=U (.dS fs)
 m:∀e∈L,bc fs e.1=U (.ref (A.R e.2.1 0))/\A.o e.2.1 0=U e.2.2
 f:∀k t,30<k->A.o k t=A0.o k t/\A.st k t=A0.st k t
 l:fs.length<=c
theorem qR.set{L:List (String×Nat×AO)}{c:Nat}(I:qR A0 A fs L c){f:String}(h:∀e∈L,e.1≠f)(H:∀e∈L,e.2.1≠30):qR A0 (A.set 30 0 (.dS (bA fs f v))) (bA fs f v) L (c+1):=by
 refine⟨I.sn,nq,λe m=>⟨?_,(if_neg λq=>H e m q.1).trans (I.m e m).2⟩,λk t l=>⟨(if_neg λq=>absurd (bM (kS _) 0x1303131131e471371e4 rfl l (K2 q.1)) (Lz 0)).trans (I.f k t l).1,(I.f k t l).2⟩,KQ (iy _ _ _) (Lp I.l)⟩
 (rw[eL];refine Z (if_neg (h e m)) ?_);exact(I.m e m).1
theorem qR.new{L:List (String×Nat×AO)}{c:Nat}(I:qR A0 A fs L c){f:String}{k:Nat}{x:AO}{n:Nat}(F:∀e∈L,e.1≠f)(h:∀e∈L,e.2.1≠30/\e.2.1≠k)(K:k<30):qR A0 ((A.new k 0 n x).set 30 0 (.dS (bA fs f (.ref ⟨k,0,n⟩)))) (bA fs f (.ref ⟨k,0,n⟩)) (L++[(f,k,x)]) (c+1):=by
 refine⟨(if_neg (λq=>absurd (bM (kS _) 0x13031311371e4131e47 rfl K (K2 q.1)) (Lz 0))).trans I.sn,nq,λe m=>?_,λj t l=>⟨((Z (if_neg λq=>absurd (bM (kS _) 0x1303131131e471371e4 rfl l (K2 q.1)) (Lz 0)) (Z (if_neg λq=>absurd (bM (gF _ _) 0x13031311371e4131131e481387 rfl K l (K2 q.1)) (Lz 0)) ((I.f j t l).1))):(if j=30/\t=0 then _ else(if j=k/\t=0 then U x else A.o j t))=_),((Z (if_neg λq=>absurd (bM (gF _ _) 0x13031311371e4131131e481387 rfl K l (K2 q.1)) (Lz 0)) ((I.f j t l).2)):(if j=k/\t=0 then n else A.st j t)=_)⟩,KQ (iy _ _ _) (Lp I.l)⟩
 ·rcases K8.mp m with m |m
  ·have H:¬(e.2.1=k/\(0:Int)=0):=λq=>(h e m).2 q.1
   refine⟨?_,((if_neg (λq=>(h e m).1 q.1:¬(e.2.1=30/\(0:Int)=0))).trans (if_neg H)).trans (I.m e m).2⟩
   (rw[eL];refine Z (if_neg (F e m)) (Z ((I.m e m).1) ?_))
   exact((Z (if_neg H) rfl):U (V.ref ⟨e.2.1,0,A.st e.2.1 0⟩)=U (V.ref ⟨e.2.1,0,if e.2.1=k/\(0:Int)=0 then n else A.st e.2.1 0⟩))
  ·cases KU.mp m
   refine⟨?_,((Z (if_neg λq=>absurd (bM (kS _) 0x13031311371e4131e47 rfl K (K2 q.1.symm)) (Lz 0)) (Z (if_pos ⟨rfl,rfl⟩) rfl)):(if k=30/\(0:Int)=0 then _ else(if k=k/\(0:Int)=0 then U x else A.o k 0))=U x)⟩
   ·(rw[eL];refine Z (if_pos rfl) ?_)
    show U (V.ref ⟨k,0,n⟩)=U (V.ref ⟨k,0,if k=k/\(0:Int)=0 then n else A.st k 0⟩);exact Z (if_pos ⟨rfl,rfl⟩) rfl
noncomputable def DT(f:String)(k:Nat):List (String×Nat×AO)->Bool
 |[]=>LS k 30
 |e::L=>!decide (e.1=f)&&(!Ly e.2.1 30&&(!Ly e.2.1 k&&DT f k L))
theorem rf:∀{L:List (String×Nat×AO)},DT f k L=true->k<30/\∀e∈L,e.1≠f/\e.2.1≠30/\e.2.1≠k
 |[],h=>⟨Mq h,λ_ m=>nomatch m⟩
 |e::L,h=>by
  have h:(!decide (e.1=f)&&(!Ly e.2.1 30&&(!Ly e.2.1 k&&DT f k L)))=true:=h;induction c:decide (e.1=f) with
  |true=>replace h:=c▸h;exact aK h
  |false=>
   induction C:Ly e.2.1 30 with
   |true=>rw[c,C] at h;exact aK h
   |false=>
    induction d:Ly e.2.1 k with
    |true=>rw[c,C,d] at h;exact aK h
    |false=>
     rw[c,C,d] at h;obtain⟨a,b⟩:=rf h;refine⟨a,λx m=>?_⟩;rcases KZ.mp m with rfl |m
     ·exact⟨of_decide_eq_false c,OQ C,OQ d⟩
     ·exact b x m
theorem fX{c:Nat}(r:AR h (A.new k 0 A.nn x))(I:qR A0 A fs L c)(H:DT f k L=true)(l:LS c 900=true){P:Hp->Prop}(q:∀h' A' v,AR h' A'->qR A0 A' (bA fs f v) (L++[(f,k,x)]) (c+1)->P h'):
  bB (ai.bC h ⟨30,0,sN⟩) (BF ⟨30,0,sN⟩ f (.ref ⟨k,0,A.nn⟩) P h):=by
 refine ay (rf H) λK H=>?_;have n:¬(30=k/\(0:Int)=0):=λq=>absurd q.1 (N0 K);exact F4 r ((if_neg n).trans I.sn) ((if_neg n).trans I.o) (K6 I.l (Mq l)) λa R=>q _ _ _ R (I.new (λe m=>(H e m).1) (λe m=>(H e m).2) K)
theorem fI{P:PS}(k:Nat)(u:List Int)(e:(J[0]?).join=U Me)(R:AR h A){c:Nat}(I:qR A0 A fs L c)(H:DT f k L=true)(a:LS u.length 900=true)(l:LS c 900=true)
  (q:∀h' A' v,AR h' A'->qR A0 A' (bA fs f v) (L++[(f,k,.dI u λ_=>KT)]) (c+1)->St.bh G1 C r J P h'):St.bh G1 C (.a8 (.ao (.var 0) f) (.dict [] [])::r) J P h:=
 aY (d0 (mS k 0 u R (Mq a) λd b=>ab e (fX b I H l q)))
theorem fP{P:PS}(k:Nat)(u:List (List Int))(e:(J[0]?).join=U Me)(R:AR h A){c:Nat}(I:qR A0 A fs L c)(H:DT f k L=true)(a:LS u.length 900=true)(l:LS c 900=true)
  (q:∀h' A' v,AR h' A'->qR A0 A' (bA fs f v) (L++[(f,k,.dP u λ_=>KT)]) (c+1)->St.bh G1 C r J P h'):St.bh G1 C (.a8 (.ao (.var 0) f) (.dict [] [])::r) J P h:=
 aY (d0 (v5 k 0 u R (Mq a) λd b=>ab e (fX b I H l q)))
theorem fL{P:PS}(k:Nat)(e:(J[0]?).join=U Me)(R:AR h A){c:Nat}(I:qR A0 A fs L c)(H:DT f k L=true)(l:LS c 900=true)
  (q:∀h' A' v,AR h' A'->qR A0 A' (bA fs f v) (L++[(f,k,.list [])]) (c+1)->St.bh G1 C r J P h'):St.bh G1 C (.a8 (.ao (.var 0) f) (.list [])::r) J P h:=
 aY (gc k 0 (xs:=[]) R (Lf _) λb a=>ab e (fX a I H l q))
theorem fV{P:PS}(E:(J[0]?).join=U Me)(R:AR h A){c:Nat}(I:qR A0 A fs L c)(H:DT f 0 L=true)(l:LS c 900=true)
  (q:∀h' A',AR h' A'->qR A0 A' (bA fs f v) L (c+1)->St.bh G1 C r J P h'):St.bh G1 C (.a8 (.ao (.var 0) f) (.aE v)::r) J P h:=
 aY (aS (ab E (F4 R I.sn I.o (K6 I.l (Mq l)) λb a=>q _ _ a (I.set (λe m=>((rf H).2 e m).1) λe m=>((rf H).2 e m).2.1))))
noncomputable def Gm(f g h i j k l m v a b c d e:V):List (String×V):=bA (bA (bA (bA (bA (bA (bA (bA (bA (bA (bA (bA (bA (bA (bA (bA (bA [] "bank" Bk) "root" f) "members" g) "uses" h) "value" i) "apart" j) "watchers" k) "up" l) "table" m) "sides" v) "told" a) "news" b) "queue" c) "clash" .none) "clash_level" (.int 0)) "trail" d) "marks" e
noncomputable def JE:List (String×Nat×AO):=[("root",1,.dI ar λ_=>KT),("members",2,.dI ar λ_=>KT),("uses",3,.dI ar λ_=>KT),("value",4,.dI ar λ_=>KT),("apart",5,.dI ar λ_=>KT),("watchers",6,.dI ar λ_=>KT),("up",7,.dI ar λ_=>KT),("table",8,.dP iQ λ_=>KT),("sides",9,.dI fw λ_=>KT),("told",10,.dI fw λ_=>KT),("news",11,.list []),("queue",12,.list []),("trail",13,.list []),("marks",14,.list [])]
theorem qR.at{L:List (String×Nat×AO)}{c i:Nat}{x:String}{k:Nat}{a:AO}{v:V}(I:qR A0 A fs L c)(e:L[i]? =U (x,k,a))(E:bc fs x=U v):v=.ref (A.R k 0)/\A.o k 0=U a:=by have g:=I.m _ (Nt e);exact⟨KP (E.symm.trans g.1),g.2⟩
theorem uM{c:Nat}{C h:V}(I:qR A0 A (Gm u w x y z B C D a b d e h j) JE c)(Q:A0.st 31 0=bN)(R:A0.o 31 0=U (.dS (dA A0)))(S:A0.o 32 0=U (.list (hW 0)))(T:A0.o 33 0=U (.list (ez [])))(W:A0.o 35 0=U (.list (dU 0))):aG A (λ_=>[]) M0:=by
 have E:=I.at (i:=0) (v:=u) rfl (by kernel_rfl);have F:=I.at (i:=1) (v:=w) rfl (by kernel_rfl);have H:=I.at (i:=2) (v:=x) rfl (by kernel_rfl);have J:=I.at (i:=3) (v:=y) rfl (by kernel_rfl);have K:=I.at (i:=4) (v:=z) rfl (by kernel_rfl);have L:=I.at (i:=5) (v:=B) rfl (by kernel_rfl);have M:=I.at (i:=6) (v:=C) rfl (by kernel_rfl);have N:=I.at (i:=7) (v:=D) rfl (by kernel_rfl);have P:=I.at (i:=8) (v:=a) rfl (by kernel_rfl);have G:=I.at (i:=9) (v:=b) rfl (by kernel_rfl);have n:=I.at (i:=10) (v:=d) rfl (by kernel_rfl);have p:=I.at (i:=11) (v:=e) rfl (by kernel_rfl);have q:=I.at (i:=12) (v:=h) rfl (by kernel_rfl);have s:=I.at (i:=13) (v:=j) rfl (by kernel_rfl);have es:=I.o;simp only[E.1,F.1,H.1,J.1,K.1,L.1,M.1,N.1,P.1,G.1,n.1,p.1,q.1,s.1] at es;have o:∀g,oP [] g=λ_=>KT:=λg=>funext λt=>if_neg MU;have f:=I.f;have r:∀k,30<k->A.R k 0=A0.R k 0:=λk l=>congrArg (cq.mk k 0) (f k 0 l).2;have X:dA A=dA A0:=by unfold dA;simp only[r 37 (by decide),r 38 (by decide),r 39 (by decide),r 32 (by decide),r 33 (by decide),r 34 (by decide),r 35 (by decide),r 36 (by decide)]
 refine⟨rfl,I.sn,(f 31 0 (by decide)).2.trans Q,es.trans (by kernel_rfl),by refine Z (o _) ?_;exact E.2,by refine Z (o _) ?_;exact F.2,by refine Z (o _) ?_;exact H.2,by refine Z (o _) ?_;exact J.2,by refine Z (o _) ?_;exact K.2,by refine Z (o _) ?_;exact L.2,M.2,N.2,P.2,G.2,n.2,p.2,q.2,s.2,λ_ m=>(nomatch m),λ_ m=>(nomatch m),λ_ m=>(nomatch m),λ_ m=>(nomatch m),?_,(f 32 0 (by decide)).1.trans S,(f 33 0 (by decide)).1.trans T,(f 35 0 (by decide)).1.trans W⟩;refine Z X ?_;exact(f 31 0 (by decide)).1.trans R
set_option maxHeartbeats 4000000 in
theorem xW(R:AR h A)(S:A.st 30 0=sN)(o:A.o 30 0=U (.dS []))(B:A.st 31 0=bN)(x:A.o 31 0=U (.dS (dA A)))(y:A.o 32 0=U (.list (hW 0)))(z:A.o 33 0=U (.list (ez [])))(C:A.o 35 0=U (.list (dU 0)))
  (q:∀h' A',AR h' A'->aG A' (λ_=>[]) M0->(∀k t,30<k->A'.o k t=A.o k t/\A'.st k t=A.st k t)->Q .none h'):cw (n+1) "__init__" [Me,Bk] Q h:=by
 refine ab ((by kernel_rfl:T1 ("Congruence"++"."++"__init__")=U gZ)) ⟨rfl,aY (aB rfl (F4 R S o (aX rfl) λh1 D=>fI 1 ar rfl D (⟨S,nq,λ_ m=>(nomatch m),λk t l=>⟨if_neg λq=>absurd q.1 (N0 l),rfl⟩,K9 _⟩:qR A (A.set 30 0 (.dS (bA [] "bank" Bk))) (bA [] "bank" Bk) [] 1) rfl rfl rfl λh2 A2 v2 E F=>fI 2 ar rfl E F rfl rfl rfl λh3 A3 v3 G H=>fI 3 ar rfl G H rfl rfl rfl λh4 A4 v4 J K=>fI 4 ar rfl J K rfl rfl rfl λh5 A5 v5 L M=>fI 5 ar rfl L M rfl rfl rfl λh6 A6 v6 N P=>fI 6 ar rfl N P rfl rfl rfl λh7 A7 v7 T V=>?_))⟩
 refine fI 7 ar rfl T V rfl rfl rfl λh8 A8 v8 W X=>fP 8 iQ rfl W X rfl rfl rfl λh9 A9 v9 Z I9=>fI 9 fw rfl Z I9 rfl rfl rfl λaa ac af r I=>fI 10 fw rfl r I rfl rfl rfl λag an ap a b=>fL 11 rfl a b rfl rfl λas a1 a2 c d=>fL 12 rfl c d rfl rfl λa3 bd bi e f=>fV rfl e f rfl rfl λbk bn g j=>fV rfl g j rfl rfl λbs bw p s=>?_
 exact fL 13 rfl p s rfl rfl λbD bL b1 u v=>fL 14 rfl u v rfl rfl λb2 b3 b4 w i=>q _ _ w (uM i B x y z C) i.f
end
structure B4(A:AH)(e:List (Int×Int)):Prop where
 bn:A.st 31 0=bN
 fC:A.o 31 0=U (.dS (dA A))
 ops:A.o 32 0=U (.list (hW e.length))
 args:A.o 33 0=U (.list (ez e))
 bF:A.o 35 0=U (.list (dU e.length))
noncomputable def aG.b4{A:AH}{D:Nat->List Int}{M:Hs}(H:aG A D M):B4 A M.ce:=⟨H.bn,H.fC,H.ops,H.args,H.bF⟩
section
variable {D:Nat->List Int} {Uv:List (Int×Int)} {fs:List (String×V)}
theorem hJ{v:V}{P:V->Prop}(R:AR h A)(s:A.st 30 0=sN)(o:A.o 30 0=U (.dS fs))(e:bc fs f=U v)(q:P v):bB (ai.bC h ⟨30,0,sN⟩) (tX f P):=by have:=Bm R o e q;rwa[show A.R 30 0=⟨30,0,sN⟩ from congrArg (cq.mk 30 0) s] at this
theorem lE{P:Prop}(R:AR h A)(s:A.st 30 0=sN)(o:A.o 30 0=U (.dS fs))(e:bc fs m=KT)(g:G1 ("Congruence"++"."++m)=U .none)(q:P):(bB (ai.bC h ⟨30,0,sN⟩) (Ge m))/\bB (G1 ("Congruence"++"."++m)) (sH P):=by refine⟨?_,ab g q⟩;have:=R.dS o;rw[show A.R 30 0=⟨30,0,sN⟩ from congrArg (cq.mk 30 0) s] at this;exact ab (fQ this) e
theorem DF(R:AR h A)(B:B4 A Uv)(H:aj t)(q:Q (.str (v1 t)) h):bw (n+1) "op" [Bk,.int t] Q h:=by
 have e:jr (hW Uv.length) t=U (.str (v1 t)):=by clear q;rcases c5 H with rfl |rfl |rfl |rfl |rfl |rfl |rfl |rfl |rfl<;>rfl
 exact ab ut ⟨rfl,jQ R B.bn B.fC rfl (jX R B.ops e ⟨_,_,.refl,q⟩)⟩
theorem w1(R:AR h A)(B:B4 A Uv)(H:aj t)(q:Q (.aA (ae (kX t))) h):bw (n+1) "args" [Bk,.int t] Q h:=by
 have e:jr (ez Uv) t=U (.aA (ae (kX t))):=by clear q;rcases c5 H with rfl |rfl |rfl |rfl |rfl |rfl |rfl |rfl |rfl<;>rfl
 exact ab m6 ⟨rfl,jQ R B.bn B.fC rfl (jX R B.args e ⟨_,_,.refl,q⟩)⟩
theorem BK(R:AR h A)(B:B4 A Uv)(H:aj t)(q:Q (s5 t) h):bw (n+1) "data" [Bk,.int t] Q h:=by
 have e:jr (dU Uv.length) t=U (s5 t):=by clear q;rcases c5 H with rfl |rfl |rfl |rfl |rfl |rfl |rfl |rfl |rfl<;>rfl
 exact ab tM ⟨rfl,jQ R B.bn B.fC rfl (jX R B.bF e ⟨_,_,.refl,q⟩)⟩
theorem vl(R:AR h A)(s:A.st 30 0=sN)(self:A.o 30 0=U (.dS (bC A M)))(B:B4 A Uv)(H:aj t)(q:Q (.aA (ae (kX t))) h):cw (n+2) "inner" [Me,.int t] Q h:=by
 refine ab qj ⟨rfl,hJ R s self rfl (fg R B.bn B.fC rfl rV (DF R B H (aS ?_)))⟩;induction c:fK t with
 |true=>
  have e:gI h .eq (.str (v1 t)) (.str "app")=U false:=by unfold v1;refine Z c ?_;rfl
  refine ab e ⟨by decide,_,_,.refl,?_⟩;have:kX t=[]:=by unfold fK at c;clear e;rcases c5 H with rfl |rfl |rfl |rfl |rfl |rfl |rfl |rfl |rfl<;>first |rfl |(exact absurd c (by decide))
  replace q:=this▸q;exact q
 |false=>
  have e:gI h .eq (.str (v1 t)) (.str "app")=U true:=by unfold v1;refine Z c ?_;rfl
  exact ab e (hJ R s self rfl (fg R B.bn B.fC rfl gp (w1 R B H ⟨_,_,.refl,q⟩)))
theorem IQ{D:List Int}{f:Int->Int}{x:Int}(h:x∈D)(H:aj x):oP D (hZ f) x=U (.int (f x)):=(if_pos h).trans (if_pos H)
theorem G9(R:AR h A)(H:aG A D M){u:Int}(e:ai.M.arg t=U u)(b:u∈D 1)(q:Q (.aA (ae (eR M u))) h):cw (n+2) "signature" [Me,.int t] Q h:=by refine ay (aZ e) λT N=>ab ju ⟨rfl,hJ R H.sn H.self rfl (fg R H.bn H.fC rfl tQ (BK R H.b4 T (Z (ub e) ⟨by decide,hJ R H.sn H.self rfl (fg R H.bn H.fC rfl gp (w1 R H.b4 T (Z (iO e) (ab (a:=.bo [.int u]) rfl ⟨2,hJ R H.sn H.self rfl (cI R H.Y (IQ b N) ⟨by decide,hA (bz (by refine(?_ :1<=aN);decide) (ax (vY (by refine(?_ :1<=aN);decide) ?_)))⟩)⟩))))⟩)))⟩;exact⟨(λq=>nomatch q),(λq=>nomatch q),(by decide:2<=aN),_,_,.refl,q⟩
theorem aG.c9(H:aG A D M){xs:List V}{l:List e0}(e:xs=l.map e0.v):aG (A.set 13 0 (.list xs)) D (M.bR l):=
 {H with ak:=(by refine Z e ?_;rfl)}
theorem aG.lr(H:aG A D M){g:List Int->Option V}{f:List Int->Option Int}(e:g=λt=>(f t).map V.int):aG (A.set 8 0 (.dP iQ g)) D (M.hG f):=
 {H with bt:=(by refine Z e ?_;rfl)}
theorem aG.q'(H:aG A D M){t:Int}{xs:List V}{l:List Int}(e:xs=ae l):aG (A.set 22 t (.list xs)) D (M.gM t l):=by
 refine{H with c8:=λT m=>?_};show(if 22=22/\T=t then U (AO.list xs) else A.o 22 T)=U (.list (ae (aH M.aM t l T)));by_cases c:T=t;·subst c;(refine Z (if_pos ⟨rfl,rfl⟩) ?_;(rw[ai.M.aP];exact Z e rfl))
 ·exact Z (if_neg λq=>c q.2) (Z (ai.M.aI _ _ c) (H.c8 T m))
theorem Bt(R:AR h A)(H:aG A D M){u:Int}(e:ai.M.arg t=U u)(b:u∈D 1)(c:aj (M.Y u))(N:M.bt (eR M u)=KT)(lt:M.ak.length<aN)
  (q:∀h' A',AR h' A'->aG A' D ((M.bR (M.ak++[.g3 (eR M u)])).hG (aH M.bt (eR M u) (U t)))->(∀k t,24<k->A'.o k t=A.o k t/\A'.st k t=A.st k t)->Q .none h'):cw (n+3) "look_up" [Me,.int t] Q h:=by
 refine ab lQ ⟨rfl,lE R H.sn H.self rfl ha (a1 rfl (G9 R H e b ⟨aX rfl,hJ R H.sn H.self rfl (ab (rj R H.bt) ⟨rfl,rj R H.bt,Bo R H.bt (dC _) (Z N ⟨aX rfl,hJ R H.sn H.self rfl (ab (aq R H.ak) ⟨rfl,(by decide:3<=aN),aq R H.ak,bJ R H.ak (Z (KS _) lt) λf r=>?_⟩)⟩)⟩)⟩))⟩;have a:=H.c9 (l:=M.ak++[e0.g3 (eR M u)]) (dc M.ak (e0.g3 (eR M u)));exact hJ r a.sn a.self rfl (oB r a.bt (dC _) (qU c) λg d=>q _ _ d (a.lr (e6 (U t))) (λk t l=>⟨(if_neg λq=>absurd (bM (kS _) 0x130313113184713783 rfl l (K2 q.1)) (Lz 0)).trans (if_neg λq=>absurd (bM (kS _) 0x1303131131847137d3 rfl l (K2 q.1)) (Lz 0)),rfl⟩))
end
section
variable {D:Nat->List Int} {Uv:List (Int×Int)}
theorem jh{D:List Int}{g g':Int->Option V}{v:V}(h:g' t=U v)(H:∀x,x≠t->g' x=g x):ft (oP D g) t (U v)=oP (D++[t]) g':=by
 funext x;refine(?_ :(if x=t then U v else if x∈D then g x else KT)=if x∈D++[t] then g' x else KT);by_cases c:x=t;·exact Z (if_pos c) (Z (if_pos (Ld _ (KU.mpr c))) (Z c (Z h rfl)))
 ·refine Z (if_neg c) (Z (H x c) ?_)
  by_cases d:x∈D;·exact Z (if_pos d) (Z (if_pos (Lb _ d)) rfl)
  ·exact Z (if_neg d) (Z (if_neg λm=>(K8.mp m).elim d λm=>c (KU.mp m)) rfl)
theorem wx{a:Type}{k:Nat}{t:Int}{D:List Int}{f:Int->List a}{g:List a->List V}{xs:List V}{l:List a}(h:∀t∈D,A.o k t=U (.list (g (f t))))(e:xs=g l):
  ∀T∈D++[t],(if k=k/\T=t then U (AO.list xs) else A.o k T)=U (.list (g (aH f t l T))):=λT m=>by
 by_cases c:T=t;·clear m;subst c;(refine Z (if_pos ⟨rfl,rfl⟩) ?_;(rw[ai.M.aP];exact Z e rfl))
 ·exact Z (if_neg λq=>c q.2) (Z (ai.M.aI _ _ c) (h T ((K8.mp m).resolve_right λm=>c (KU.mp m))))
theorem aG.B3(H:aG A D M){t:Int}(n:aj t):aG (A.set 1 0 (.dI ar (ft (oP (D 1) (hZ M.Y)) t (U (.int v))))) (aH D 1 (D 1++[t])) (M.j' (aH M.Y t v)):=
 ⟨H.cl,H.sn,H.bn,H.self,congrArg (λg=>U (AO.dI ar g)) (jh ((if_pos n).trans (congrArg (λx=>U (V.int x)) (ai.M.aP M.Y t v))) λx c=>by refine((Z (ai.M.aI _ _ c) ?_):(if aj x then U (V.int (aH M.Y t v x)) else none)=_);rfl),H.mem,H.aM,H.val,H.bl,H.bK,H.up,H.bt,H.aC,H.a7,H.a4,H.aw,H.ak,H.am,H.fp,H.c8,H.ec,H.fW,H.fC,H.ops,H.args,H.bF⟩
theorem aG.zs(H:aG A D M){t:Int}(n:aj t):aG (A.set 4 0 (.dI ar (ft (oP (D 4) (hZ M.val)) t (U (.int v))))) (aH D 4 (D 4++[t])) (M.sJ (aH M.val t v)):=
 ⟨H.cl,H.sn,H.bn,H.self,H.Y,H.mem,H.aM,congrArg (λg=>U (AO.dI ar g)) (jh ((if_pos n).trans (congrArg (λx=>U (V.int x)) (ai.M.aP M.val t v))) λx c=>by refine((Z (ai.M.aI _ _ c) ?_):(if aj x then U (V.int (aH M.val t v x)) else none)=_);rfl),H.bl,H.bK,H.up,H.bt,H.aC,H.a7,H.a4,H.aw,H.ak,H.am,H.fp,H.c8,H.ec,H.fW,H.fC,H.ops,H.args,H.bF⟩
theorem aG.En(H:aG A D M){t:Int}{k:Nat}{xs:List V}{l:List (Int)}(n:aj t)(e:xs=ae l):aG ((A.new 21 t k (.list xs)).set 2 0 (.dI ar (ft (oP (D 2) (jD A 21)) t (U (.ref ⟨21,t,k⟩))))) (aH D 2 (D 2++[t])) (M.nZ t l):=
 ⟨H.cl,H.sn,H.bn,H.self,H.Y,congrArg (λg=>U (AO.dI ar g)) (jh (g':=jD (A.new 21 t k (.list xs)) 21) ((if_pos n).trans (Z n3 rfl)) λx c=>by refine((Z (if_neg (c:=21=21/\x=t) λq=>c q.2) ?_):(if aj x then U (V.ref ⟨21,x,if 21=21/\x=t then k else A.st 21 x⟩) else none)=_);rfl),H.aM,H.val,H.bl,H.bK,H.up,H.bt,H.aC,H.a7,H.a4,H.aw,H.ak,H.am,wx H.fp e,H.c8,H.ec,H.fW,H.fC,H.ops,H.args,H.bF⟩
theorem aG.CN(H:aG A D M){t:Int}{k:Nat}{xs:List V}{l:List (Int)}(n:aj t)(e:xs=ae l):aG ((A.new 22 t k (.list xs)).set 3 0 (.dI ar (ft (oP (D 3) (jD A 22)) t (U (.ref ⟨22,t,k⟩))))) (aH D 3 (D 3++[t])) (M.gM t l):=
 ⟨H.cl,H.sn,H.bn,H.self,H.Y,H.mem,congrArg (λg=>U (AO.dI ar g)) (jh (g':=jD (A.new 22 t k (.list xs)) 22) ((if_pos n).trans (Z n3 rfl)) λx c=>by refine((Z (if_neg (c:=22=22/\x=t) λq=>c q.2) ?_):(if aj x then U (V.ref ⟨22,x,if 22=22/\x=t then k else A.st 22 x⟩) else none)=_);rfl),H.val,H.bl,H.bK,H.up,H.bt,H.aC,H.a7,H.a4,H.aw,H.ak,H.am,H.fp,wx H.c8 e,H.ec,H.fW,H.fC,H.ops,H.args,H.bF⟩
theorem aG.Ei(H:aG A D M){t:Int}{k:Nat}{xs:List V}{l:List (Int×Int×Int)}(n:aj t)(e:xs=NK ii l):aG ((A.new 23 t k (.list xs)).set 5 0 (.dI ar (ft (oP (D 5) (jD A 23)) t (U (.ref ⟨23,t,k⟩))))) (aH D 5 (D 5++[t])) (M.hv t l):=
 ⟨H.cl,H.sn,H.bn,H.self,H.Y,H.mem,H.aM,H.val,congrArg (λg=>U (AO.dI ar g)) (jh (g':=jD (A.new 23 t k (.list xs)) 23) ((if_pos n).trans (Z n3 rfl)) λx c=>by refine((Z (if_neg (c:=23=23/\x=t) λq=>c q.2) ?_):(if aj x then U (V.ref ⟨23,x,if 23=23/\x=t then k else A.st 23 x⟩) else none)=_);rfl),H.bK,H.up,H.bt,H.aC,H.a7,H.a4,H.aw,H.ak,H.am,H.fp,H.c8,wx H.ec e,H.fW,H.fC,H.ops,H.args,H.bF⟩
theorem aG.EH(H:aG A D M){t:Int}{k:Nat}{xs:List V}{l:List (Int)}(n:aj t)(e:xs=ae l):aG ((A.new 24 t k (.list xs)).set 6 0 (.dI ar (ft (oP (D 6) (jD A 24)) t (U (.ref ⟨24,t,k⟩))))) (aH D 6 (D 6++[t])) (M.mo t l):=
 ⟨H.cl,H.sn,H.bn,H.self,H.Y,H.mem,H.aM,H.val,H.bl,congrArg (λg=>U (AO.dI ar g)) (jh (g':=jD (A.new 24 t k (.list xs)) 24) ((if_pos n).trans (Z n3 rfl)) λx c=>by refine((Z (if_neg (c:=24=24/\x=t) λq=>c q.2) ?_):(if aj x then U (V.ref ⟨24,x,if 24=24/\x=t then k else A.st 24 x⟩) else none)=_);rfl),H.up,H.bt,H.aC,H.a7,H.a4,H.aw,H.ak,H.am,H.fp,H.c8,H.ec,wx H.fW e,H.fC,H.ops,H.args,H.bF⟩
end
noncomputable def Kx(D:Nat->List Int)(t:Int):Nat->List Int:=aH (aH (aH (aH (aH (aH D 1 (D 1++[t])) 2 (D 2++[t])) 3 (D 3++[t])) 5 (D 5++[t])) 6 (D 6++[t])) 4 (D 4++[t])
noncomputable def d7(M:Hs)(t:Int):Hs:=(((((M.j' (aH M.Y t t)).nZ t [t]).gM t []).hv t []).mo t []).sJ (aH M.val t (if fK t then t else 0))
def qa(A A':AH):Prop:=∀k t,24<k->A'.o k t=A.o k t/\A'.st k t=A.st k t
theorem qa.trans{B C:AH}(a:qa A B)(b:qa B C):qa A C:=λk t l=>⟨(b k t l).1.trans (a k t l).1,(b k t l).2.trans (a k t l).2⟩
theorem qa.set{k:Nat}{t:Int}{x:AO}(h:k<=24):qa A (A.set k t x):=λK T l=>⟨if_neg λq=>absurd (bM (gF _ _) 0x13031371841311318481387 rfl h l (K2 q.1)) (Lz 0),rfl⟩
theorem qa.new{k n:Nat}{t:Int}{x:AO}(h:k<=24):qa A (A.new k t n x):=λK T l=>⟨if_neg λq=>absurd (bM (gF _ _) 0x13031371841311318481387 rfl h l (K2 q.1)) (Lz 0),if_neg λq=>absurd (bM (gF _ _) 0x13031371841311318481387 rfl h l (K2 q.1)) (Lz 0)⟩
section
variable {D:Nat->List Int} {Uv:List (Int×Int)}
theorem H2{P:PS}(E:(J[0]?).join=U Me)(e:(J[1]?).join=U (.int t))(R:AR h A)(H:aG A D M)(n:aj t)(q:∀h' A',AR h' A'->aG A' (aH D 2 (D 2++[t])) (M.nZ t [t])->qa A A'->St.bh G1 C r J P h'):
  St.bh G1 C (.a8 (.sub (.ao (.var 0) "members") (.var 1)) (.list [.var 1])::r) J P h:=by
 refine aY (ab e (c6 21 t (xs:=[.int t]) R (by refine(?_ :1<=aN);decide) λK c a=>gg ?_));exact ab E (lL a (fs:=bC A M) H.self H.sn rfl (aB e (cF (A:=A.new 21 t K _) (k:=2) (t:=0) a H.mem (aR n) λd b=>q _ _ b (H.En n rfl) (.trans (.new (by decide)) (.set (by decide))))))
theorem FE{P:PS}(e:(J[0]?).join=U Me)(E:(J[1]?).join=U (.int t))(R:AR h A)(H:aG A D M)(n:aj t)(q:∀h' A',AR h' A'->aG A' (aH D 3 (D 3++[t])) (M.gM t [])->qa A A'->St.bh G1 C r J P h'):
  St.bh G1 C (.a8 (.sub (.ao (.var 0) "uses") (.var 1)) (.list [])::r) J P h:=by
 refine aY (c6 22 t (xs:=[]) R (by refine(?_ :0<=aN);decide) λK c a=>gg ?_);exact ab e (lL a (fs:=bC A M) H.self H.sn rfl (aB E (cF (A:=A.new 22 t K _) (k:=3) (t:=0) a H.aM (aR n) λd b=>q _ _ b (H.CN n rfl) (.trans (.new (by decide)) (.set (by decide))))))
theorem Gz{P:PS}(e:(J[0]?).join=U Me)(E:(J[1]?).join=U (.int t))(R:AR h A)(H:aG A D M)(n:aj t)(q:∀h' A',AR h' A'->aG A' (aH D 5 (D 5++[t])) (M.hv t [])->qa A A'->St.bh G1 C r J P h'):
  St.bh G1 C (.a8 (.sub (.ao (.var 0) "apart") (.var 1)) (.list [])::r) J P h:=by
 refine aY (c6 23 t (xs:=[]) R (by refine(?_ :0<=aN);decide) λK c a=>gg ?_);exact ab e (lL a (fs:=bC A M) H.self H.sn rfl (aB E (cF (A:=A.new 23 t K _) (k:=5) (t:=0) a H.bl (aR n) λd b=>q _ _ b (H.Ei n rfl) (.trans (.new (by decide)) (.set (by decide))))))
theorem HI{P:PS}(e:(J[0]?).join=U Me)(E:(J[1]?).join=U (.int t))(R:AR h A)(H:aG A D M)(n:aj t)(q:∀h' A',AR h' A'->aG A' (aH D 6 (D 6++[t])) (M.mo t [])->qa A A'->St.bh G1 C r J P h'):
  St.bh G1 C (.a8 (.sub (.ao (.var 0) "watchers") (.var 1)) (.list [])::r) J P h:=by
 refine aY (c6 24 t (xs:=[]) R (by refine(?_ :0<=aN);decide) λK c a=>gg ?_);exact ab e (lL a (fs:=bC A M) H.self H.sn rfl (aB E (cF (A:=A.new 24 t K _) (k:=6) (t:=0) a H.bK (aR n) λd b=>q _ _ b (H.EH n rfl) (.trans (.new (by decide)) (.set (by decide))))))
theorem Dd{P:PS}(R:AR h A)(H:aG A D M)(N:aj t)(q:∀h' A',AR h' A'->aG A' (aH (aH (aH (aH (aH D 1 (D 1++[t])) 2 (D 2++[t])) 3 (D 3++[t])) 5 (D 5++[t])) 6 (D 6++[t])) (((((M.j' (aH M.Y t t)).nZ t [t]).gM t []).hv t []).mo t [])->qa A A'->St.bh G1 (a5 G1 T1 (n+3)) (cb.body.drop 5) [U Me,U (.int t),KT,KT,KT] P h'):
  St.bh G1 (a5 G1 T1 (n+3)) cb.body [U Me,U (.int t),KT,KT,KT] P h:=by
 exact aY (aB rfl (gg (hJ R H.sn H.self rfl (aB rfl (cF R H.Y (aR N) λm r=>H2 rfl rfl r (H.B3 (t:=t) (v:=t) N) N λo p a b f=>FE rfl rfl a b N λs u c d F=>Gz rfl rfl c d N λw x e g i=>HI rfl rfl e g N λy z j k l=>q _ _ j k ((((qa.set (by decide)).trans f).trans F).trans (i.trans l)))))))
end
theorem JA:G1 "VALUE_OPS"=U (.aA [.str "num",.str "bvnum",.str "true",.str "false"]):=by kernel_rfl
section
variable {D:Nat->List Int} {Uv:List (Int×Int)}
theorem Ht{P:PS}(E:(J[0]?).join=U Me)(e:(J[1]?).join=U (.int t))(R:AR h A)(H:aG A D M)(N:aj t)(q:∀h' A',AR h' A'->aG A' (aH D 4 (D 4++[t])) (M.sJ (aH M.val t (if fK t=true then t else 0)))->qa A A'->St.bh G1 (a5 G1 T1 (n+3)) r J P h'):
  St.bh G1 (a5 G1 T1 (n+3)) (.a8 (.sub (.ao (.var 0) "value") (.var 1)) (.cG (.bV .dK (.az (.ao (.var 0) "bank") "op" [.var 1]) (.c4 "VALUE_OPS")) (.var 1) (.aE (.int 0)))::r) J P h:=by
 refine aY (ab E (hJ R H.sn H.self rfl (fg R H.bn H.fC rfl rV (ab e (DF R H.b4 N (ab JA ?_))))));have ok:gI h .dK (.str (v1 t)) (.aA [.str "num",.str "bvnum",.str "true",.str "false"])=U (fK t):=by unfold v1;cases fK t<;>rfl
 refine ab ok ?_;induction c:fK t with
 |true=>replace q:=c▸q;exact ab e (gg (ab E (hJ R H.sn H.self rfl (aB e (cF R H.val (aR N) λb a=>q _ _ a (H.zs N) (.set (by decide)))))))
 |false=>replace q:=c▸q;exact bH rfl (aS (gg (ab E (hJ R H.sn H.self rfl (aB e (cF R H.val (aR N) λb a=>q _ _ a (H.zs N) (.set (by decide))))))))
theorem vR(R:AR h A)(H:aG A D M)(N:aj t)(b:ai.M.arg t=KT)(lt:M.ak.length<aN)(q:∀h' A',AR h' A'->aG A' D (M.bR (M.ak++[.ie t []]))->qa A A'->Q .none h'):
  St.bh G1 (a5 G1 T1 (n+3)) (cb.body.drop 6) [U Me,U (.int t),KT,KT,KT] (Fl.cU Q) h:=by
 have v:kX t=[]:=by unfold kX;refine Z b ?_;rfl
 refine aY (lE R H.sn H.self rfl ly (a1 rfl (vl R H.sn H.self H.b4 N (Z v (ab (a:=It.bo []) rfl ⟨1,hA (bz (Lf _) ⟨aX rfl,⟨1,hJ R H.sn H.self rfl (ab (aq R H.ak) ⟨rfl,(by decide:3<=aN),aq R H.ak,bJ R H.ak (by refine Z (KS _) ?_;exact lt) λc r=>?_⟩)⟩⟩)⟩)))));exact⟨Lf _,q _ _ r (H.c9 (l:=M.ak++[e0.ie t []]) (dc M.ak (e0.ie t []))) (.set (by decide))⟩
theorem uG(R:AR h A)(H:aG A D M){u:Int}(d:ai.M.arg t=U u)(f:u∈D 1)(c:M.Y u∈D 3)(g:aj (M.Y u))(N:M.bt (eR M u)=KT)(lt:M.ak.length+1<aN)(L:(M.aM (M.Y u)).length<aN)
  (q:∀h' A',AR h' A'->aG A' D ((((M.gM (M.Y u) (M.aM (M.Y u)++[t])).bR (M.ak++[.ie t [M.Y u]])).bR ((M.ak++[.ie t [M.Y u]])++[.g3 (eR M u)])).hG (aH M.bt (eR M u) (U t)))->qa A A'->Q .none h'):
  St.bh G1 (a5 G1 T1 (n+3)) (cb.body.drop 6) [U Me,U (.int t),KT,KT,KT] (Fl.cU Q) h:=by
 refine ay (aZ d) λT j=>aY (lE R H.sn H.self rfl ly (a1 rfl (vl R H.sn H.self H.b4 T (Z (iO d) (ab (a:=It.bo [.int u]) rfl ⟨2,hJ R H.sn H.self rfl (cI R H.Y (IQ f j) ⟨by decide,hA (bz (by refine(?_ :1<=aN);decide) ⟨aX rfl,?_⟩)⟩)⟩)))));refine⟨2,⟨aX rfl,hJ R H.sn H.self rfl (cI R H.aM ((if_pos c).trans (if_pos g):oP (D 3) (jD A 22) (M.Y u)=U (.ref (A.R 22 (M.Y u)))) (ic R (H.c8 _ c) (Z (bb _) L) λo r=>?_))⟩⟩;have b:=H.q' (t:=M.Y u) (l:=M.aM (M.Y u)++[t]) (fB (M.aM (M.Y u)) [t]);refine hJ r b.sn b.self rfl (ab (aq r b.ak) ⟨rfl,(by decide:3<=aN),aq r b.ak,bJ r b.ak (Z (KS _) (Nat.lt_of_succ_lt lt)) λp i=>?_⟩);have e:=b.c9 (l:=M.ak++[e0.ie t [M.Y u]]) (dc M.ak (e0.ie t [M.Y u]));refine⟨by refine(?_ :1<=aN);decide,?_⟩;exact lE i e.sn e.self rfl lI (a1 rfl (Bt i e d f g N (((Z (bf _) lt):(M.ak++[e0.ie t [M.Y u]]).length<aN)) λs v k m F=>q _ _ k m (.trans (.trans (.set (by decide)) (.set (by decide))) F)))
end
section
variable {D:Nat->List Int}
theorem aG.m2(H:aG A D M){k:Nat}(e:M.aw=[]):aG ((A.new 12 0 k (.list [])).set 30 0 (.dS (bC (A.new 12 0 k (.list [])) M))) D M:=
 {H with self:=rfl,aw:=(by refine Z e ?_;rfl)}
theorem EX(R:AR h A)(H:aG A D M)(e:M.aw=[])(q:∀h' A',AR h' A'->aG A' D M->(∀k t,30<k->A'.o k t=A.o k t/\A'.st k t=A.st k t)->Q .none h'):cw (n+1) "close" [Me] Q h:=by have o:=H.aw;replace o:=e▸o;refine ab k8 ⟨rfl,aX rfl,1,hJ R H.sn H.self rfl (cD R o ⟨Lf _,aY (c6 12 0 (xs:=[]) R (Lf _) λk b r=>?_)⟩)⟩;have:=gx (f:="queue") (v:=.ref ⟨12,0,k⟩) (fs':=bC (A.new 12 0 k (.list [])) M) (P:=λh=>Q .none h) (A:=A.new 12 0 k (.list [])) (k:=30) (t:=0) r H.self (aX rfl) rfl λc a=>q _ _ a (H.m2 e) λK t l=>⟨(if_neg λq=>absurd (bM (kS _) 0x1303131131e471371e4 rfl l (K2 q.1)) (Lz 0)).trans (if_neg λq=>absurd (bM (kS _) 0x1303131131e47137c3 rfl l (K2 q.1)) (Lz 0)),if_neg λq=>absurd (bM (kS _) 0x1303131131e47137c3 rfl l (K2 q.1)) (Lz 0)⟩;rw[show(A.new 12 0 k (.list [])).R 30 0=⟨30,0,sN⟩ from congrArg (cq.mk 30 0) H.sn] at this;exact this
theorem aG.Jw(H:aG A D M)(f:Fr pH A A'):aG A' D M:=by
 have o:∀k t,pH k=true->A'.o k t=A.o k t:=λk t q=>(f k t q).1;exact⟨H.cl,(f 30 0 rfl).2.1.trans H.sn,(f 31 0 rfl).2.1.trans H.bn,(o 30 0 rfl).trans (H.self.trans (Z (v4 f) rfl)),(o 1 0 rfl).trans H.Y,(o 2 0 rfl).trans (H.mem.trans (Z (iM f rfl) rfl)),(o 3 0 rfl).trans (H.aM.trans (Z (iM f rfl) rfl)),(o 4 0 rfl).trans H.val,(o 5 0 rfl).trans (H.bl.trans (Z (iM f rfl) rfl)),(o 6 0 rfl).trans (H.bK.trans (Z (iM f rfl) rfl)),
  (o 7 0 rfl).trans H.up,(o 8 0 rfl).trans H.bt,(o 9 0 rfl).trans H.aC,(o 10 0 rfl).trans H.a7,(o 11 0 rfl).trans H.a4,(o 12 0 rfl).trans H.aw,(o 13 0 rfl).trans H.ak,(o 14 0 rfl).trans H.am,λt n=>(o 21 t rfl).trans (H.fp t n),λt n=>(o 22 t rfl).trans (H.c8 t n),λt n=>(o 23 t rfl).trans (H.ec t n),λt n=>(o 24 t rfl).trans (H.fW t n),
  (o 31 0 rfl).trans (H.fC.trans (Z (sz f) rfl)),(o 32 0 rfl).trans H.ops,(o 33 0 rfl).trans H.args,(o 35 0 rfl).trans H.bF⟩
end
noncomputable def ib(M:Hs)(t:Int):Hs:=match ai.M.arg t with
 |none=>(d7 M t).bR (M.ak++[.ie t []])
 |some u=>((((d7 M t).gM ((d7 M t).Y u) ((d7 M t).aM ((d7 M t).Y u)++[t])).bR (M.ak++[.ie t [(d7 M t).Y u]])).bR ((M.ak++[.ie t [(d7 M t).Y u]])++[.g3 (eR (d7 M t) u)])).hG (aH M.bt (eR (d7 M t) u) (U t))
noncomputable def Gj(M:Hs)(D:List Int)(t:Int):Bool:=!D.contains t&&M.aw.isEmpty&&Tf M.ak.length 90&&match ai.M.arg t with
 |none=>true
 |some u=>D.contains u&&(D++[t]).contains ((d7 M t).Y u)&&decide (aj ((d7 M t).Y u))&&(M.bt (eR (d7 M t) u)).isNone&&Tf ((d7 M t).aM ((d7 M t).Y u)).length 90
section
variable {D:List Int}
theorem aG.Kb{D E:Nat->List Int}(H:aG A D M)(e:∀k,1<=k->k<=6->D k=E k):aG A E M:=by have a:=e 2 (by decide) (by decide);have b:=e 3 (by decide) (by decide);have c:=e 5 (by decide) (by decide);have d:=e 6 (by decide) (by decide);exact⟨H.cl,H.sn,H.bn,H.self,hR (e 1 (by decide) (by decide)) H.Y,hR a H.mem,hR b H.aM,hR (e 4 (by decide) (by decide)) H.val,hR c H.bl,hR d H.bK,H.up,H.bt,H.aC,H.a7,H.a4,H.aw,H.ak,H.am,hR a H.fp,hR b H.c8,hR c H.ec,hR d H.fW,H.fC,H.ops,H.args,H.bF⟩
theorem Av{a b:Nat}(h:a<=90)(H:b<=5):a+b<aN:=K6 (Pe h H) (by decide)
theorem BW{t:Int}:∀k,1<=k->k<=6->(aH (aH (aH (aH (aH (aH (λ_=>D) 1 (D++[t])) 2 (D++[t])) 3 (D++[t])) 5 (D++[t])) 6 (D++[t])) 4 (D++[t]):Nat->List Int) k=D++[t]:=by intro k h H;rcases((by decide:∀k:Nat,k<7->1<=k->k=1\/k=2\/k=3\/k=4\/k=5\/k=6) k (PM H) h) with rfl |rfl |rfl |rfl |rfl |rfl<;>rfl
theorem E4(R:AR h A)(H:aG A (λ_=>D) M)(N:aj t)(ok:Gj M D t=true)(q:∀h' A',AR h' A'->aG A' (λ_=>D++[t]) (ib M t)->qa A A'->Q .none h'):cw (n+4) "enter" [Me,.int t] Q h:=by
 unfold Gj at ok;simp only[LL] at ok;refine ay ok λB ok=>ay B λa l=>?_;obtain⟨_,_⟩:=a;have l:M.ak.length<=90:=Mq l;refine ab xY ⟨rfl,Dd R H N λC E i j k=>Ht rfl rfl i j N λG m g d o=>?_⟩;have d:aG m (λ_=>D++[t]) (d7 M t):=d.Kb BW;have F:=k.trans o;induction c:ai.M.arg t with
 |none=>refine vR g d N c (Av (b:=0) l (by decide)) λp s r e f=>q _ _ r ?_ (F.trans f);unfold ib;exact Z c (e)
 |some u=>rw[c] at ok;simp only[LL] at ok;obtain⟨⟨⟨⟨v,w⟩,x⟩,y⟩,z⟩:=ok;refine uG g d c (Lb _ (Mb.mp v)) (Mb.mp w) (of_decide_eq_true x) (Nw.mp y) (Av (b:=1) l (by decide)) (Av (b:=0) (Mq z) (by decide)) λp s r e f=>q _ _ r ?_ (F.trans f);unfold ib;exact Z c (e)
theorem xJ{g:Int->Option V}{t:Int}(h:t∉D):oP D g t=KT:=if_neg h
noncomputable def GG(k:Nat):Bool:=LS 30 k&&!(Ly k 60)
def Fo(A A':AH):Prop:=∀k t,GG k=true->A'.o k t=A.o k t/\A'.st k t=A.st k t
theorem Fo.trans{B C:AH}(a:Fo A B)(b:Fo B C):Fo A C:=λk t l=>⟨(b k t l).1.trans (a k t l).1,(b k t l).2.trans (a k t l).2⟩
theorem om(h:GG k=true):30<k/\k≠60:=by unfold GG at h;simp only[LL,Nc,Bool.not_eq_true'] at h;exact⟨h.1,λe=>by replace h:=e▸h;exact aK h.2.symm⟩
theorem qa.fo(f:qa A A'):Fo A A':=λk t l=>f k t (by have:=(om l).1;exact bM (kS _) 0x1131847131131e47 rfl this)
theorem Fo.HA{x:AO}:Fo A (A.set 60 0 x):=λk t l=>⟨if_neg λq=>(om l).2 q.1,rfl⟩
theorem Fo.GK{x:AO}{n:Nat}:Fo A (A.new 60 0 n x):=λk t l=>⟨if_neg λq=>(om l).2 q.1,if_neg λq=>(om l).2 q.1⟩
theorem t':(ib M t).aw=M.aw:=by unfold ib;cases ai.M.arg t<;>rfl
theorem ym(R:AR h A)(H:aG A (λ_=>D) M)(N:aj t)(ok:Gj M D t=true)(q:∀h' A',AR h' A'->aG A' (λ_=>D++[t]) (ib M t)->Fo A A'->Q .none h'):cw (n+5) "add_term" [Me,.int t] Q h:=by
 have o:=ok;unfold Gj at ok;simp only[LL] at ok;obtain⟨⟨⟨d,y⟩,G⟩,ok⟩:=ok;have d:t∉D:=λm=>by rw[Mb.mpr m] at d;exact aK d
 refine ab ku ⟨rfl,c6 60 0 (xs:=[.int t]) R (by refine(?_ :1<=aN);decide) λm j r=>⟨aX rfl,2,?_⟩⟩;have b:aG (A.new 60 0 m (.list [.int t])) (λ_=>D) M:=H.Jw (.new rfl);have v:(!(oP D (hZ M.Y) t).isSome)=true:=by refine Z (xJ d) ?_;rfl
 refine cD r (k:=60) (t:=0) rfl ⟨by refine(?_ :1<=aN);decide,jX r (k:=60) (t:=0) (i:= -1) rfl rfl ⟨aX rfl,bz (Lf _) ⟨aX rfl,hJ r b.sn b.self rfl (fS r b.Y (bW v ?_))⟩⟩⟩;have s:∀{P:PS},P .next [U Me,U (.int t),U (.ref ⟨60,0,m⟩),U (.int t),U (.fl []),KT] j->St.bh G1 (a5 G1 T1 (n+4)) [.a8 (.var 4) (.comp (.var 5) 5 (.az (.var 0) "inner" [.var 3]) (U (.bV .eY (.var 5) (.ao (.var 0) "root"))))] [U Me,U (.int t),U (.ref ⟨60,0,m⟩),U (.int t),U (.fl []),KT] P j:=by
  intro P p;refine aY (lE r b.sn b.self rfl ly (a1 rfl (vl r b.sn b.self b.b4 N ?_)));unfold kX;induction w:ai.M.arg t with
  |none=>exact ab (a:=.bo []) rfl ⟨1,hA (bz (Lf _) ⟨aX rfl,p⟩)⟩
  |some u=>rw[w] at ok;simp only[LL] at ok;refine ab (a:=.bo [.int u]) rfl ⟨2,x5 (hJ r b.sn b.self rfl (fS r b.Y (bH (by refine Z (IQ (Mb.mp ok.1.1.1.1:u∈D) ((aZ w).2)) ?_;rfl) ?_)))⟩;exact hA (bz (Lf _) ⟨aX rfl,p⟩)
 refine s ⟨Lf _,ab (aq r (k:=60) (t:=0) rfl) ⟨rfl,aq r (k:=60) (t:=0) rfl,pY (xs:=[]) r (k:=60) (t:=0) rfl (by decide) λI e=>?_⟩⟩;have c:aG ((A.new 60 0 m (.list [.int t])).set 60 0 (.list [])) (λ_=>D) M:=b.Jw (.set rfl);refine hJ e c.sn c.self rfl (fS e c.Y (bW v (lE e c.sn c.self rfl yv (a1 rfl (E4 e c N o λz x f g F=>?_)))));have L:ca z (.ref ⟨60,0,m⟩)=U []:=hR (congrArg (cq.mk 60 0) (F 60 0 (by decide)).2:x.R 60 0=⟨60,0,m⟩) (bU f ((F 60 0 (by decide)).1:x.o 60 0=U (.list [])));exact ab (a:=[]) L ⟨Lf _,lE f g.sn g.self rfl jo (EX f g (t'.trans (OE.mp y:M.aw=[])) λJ K B C E=>q _ _ B C ((Fo.GK.trans Fo.HA).trans (F.fo.trans λk t l=>E k t (om l).1)))⟩
end
noncomputable def MN(l:List Int):Hs:=l.foldl ib M0
noncomputable def M9:Hs:=MN ar
theorem Go:∀i:Fin 9,Gj (MN (ar.take i)) (ar.take i) (3+(i.val:Int))=true:=by decide+kernel
theorem tU{d r:List Int}{t:Int}(e:ar=d++t::r):Gj (MN d) d t=true/\aj t:=by
 have lt:d.length<9:=by have:=congrArg Ov e;simp only[KW,LK] at this;have l:ar.length=9:=rfl;exact bM (io _ _ _) 0x11379313111387913993 rfl (K2 this.symm) (K2 l)
 have a:ar.take d.length=d:=by(refine Z e ?_;rw[List.take_left']);rfl
 have E:ar[d.length]? =U t:=by(refine Z e (Z (Lx (K9 _)) ?_);rw[Nb]);rfl
 have h:=((by decide+kernel:∀i:Fin 9,ar[i.val]? =U (3+(i.val:Int))) ⟨_,lt⟩).symm.trans E
 (replace h:=KP h;clear E e;subst h)
 have:=Go ⟨_,lt⟩;rw[a] at this;exact⟨this,by unfold aj;lia⟩
theorem FD{m o p x3 u x7 x8 x9 x10 x X c f i j:Option V}{P:PS}(R:AR h A)(H:aG A (λ_=>[]) M0)(q:∀h' A' y,AR h' A'->ah A' M9->Fo A A'->St.bh G1 (a5 G1 T1 (n+5)) r [m,o,p,x3,U (.fl (ae ar)),u,U Me,x7,y,x9,x10,x,X,c,f,i,j] P h'):
  St.bh G1 (a5 G1 T1 (n+5)) (.for (.var 8) (.var 4) [.expr (.az (.var 6) "add_term" [.var 8])]::r) [m,o,p,x3,U (.fl (ae ar)),u,U Me,x7,x8,x9,x10,x,X,c,f,i,j] P h:=by
 refine rI (aB rfl (ab (a:=It.bo (ae ar)) rfl (i8 (λd A'=>aG A' (λ_=>d) (MN d)/\Fo A A') (aX rfl) (λd t s v w K e b l k=>?_) (λv w y b l=>q _ _ y l b.1.sC b.2) R ⟨H,λ_ _ _=>⟨rfl,rfl⟩⟩)));have g:=tU e;refine lE l b.1.sn b.1.self rfl cr (a1 rfl (ym l b.1 g.2 g.1 λC D z B F=>k _ _ z ⟨Z (show MN (d++[t])=ib (MN d) t by unfold MN;refine Z Nk ?_;rfl) ?_,b.2.trans F⟩));exact B
theorem x0(h:∀x,M.Y x=x):∀x,(ib M t).Y x=x:=by
 have e:(ib M t).Y=aH M.Y t t:=by unfold ib;cases ai.M.arg t<;>rfl
 intro x;refine Z e ?_;by_cases c:x=t;·clear e;subst c;exact ai.M.aP _ _ _
 ·exact Z (ai.M.aI _ _ c) (h x)
theorem dM:∀x,M9.Y x=x:=by
 have:∀(l:List Int) (M:Hs),(∀x,M.Y x=x)->∀x,(l.foldl ib M).Y x=x:=by
  intro l;induction l with
  |nil=>exact λ_ h=>h
  |cons t l i=>exact λM h=>i _ (x0 h)
 exact this ar M0 λ_=>rfl
theorem iA{P:Int->Prop}(h:∀i:Fin 9,P (3+(i.val:Int)))(n:aj t):P t:=by refine ay n λa b=>?_;have:=h ⟨(t-3).toNat,by omega⟩;rwa[(by omega:3+(((t-3).toNat:Nat):Int)=t)] at this
theorem FQ(n:aj t):M9.mem t=[t]:=iA (P:=λt=>M9.mem t=[t]) (by decide+kernel) n
theorem CQ(n:aj t):M9.aM t=if t=3 then[9] else if t=4 then[10] else if t=5 then[11] else[]:=iA (P:=λt=>M9.aM t=if t=3 then[9] else if t=4 then[10] else if t=5 then[11] else[]) (by decide+kernel) n
theorem Bd(n:aj t):M9.val t=if fK t=true then t else 0:=iA (P:=λt=>M9.val t=if fK t=true then t else 0) (by decide+kernel) n
theorem ze(n:aj t):M9.bl t=[]:=iA (P:=λt=>M9.bl t=[]) (by decide+kernel) n
theorem Ey(n:aj t):M9.bK t=[]:=iA (P:=λt=>M9.bK t=[]) (by decide+kernel) n
theorem zr:M9.bt=aH (aH (aH (λ_=>KT) [0,3] (U 9)) [0,4] (U 10)) [0,5] (U 11):=by kernel_rfl
theorem zK:M9.ak.length=12:=by kernel_rfl
theorem sK{y:Int}(c:cf [] x y):x=y:=by
 induction c with
 |refl=>rfl
 |uO _ m _=>cases m
 |wL _ m _=>cases m
theorem xT(h:fK t=true):num t:=by unfold fK at h;simp only[MA,beq_iff_eq,beq_iff_eq] at h;exact h
theorem GX:cN [] M9 [] []:=by
 have up:M9.up=λ_=>KT:=rfl;refine⟨⟨λx=>⟨λy w e=>(by rw[up] at e;exact al e)⟩,λx y w e=>(by rw[up] at e;exact al e),λ_ _ _ m=>(nomatch m)⟩,λ_ _ _ m=>(nomatch m),.nil,λx y _ _=>?_,λx n=>by rw[dM];exact n,λx _=>by rw[dM],λt n _ x=>?_,λt n _ x=>?_,λt n _ v=>?_,λx n=>?_,λt n _ p H=>?_,λt n p H=>?_,λm x y h=>(nomatch h),λ_ m=>(nomatch m),λt n w W=>?_,λt p e=>(by replace e:=(rfl:M9.aC=λ_=>KT)▸e;exact al e),λm o e=>?_,λt u e=>?_,λ_ m=>(nomatch m),λ_ _ _ m=>(nomatch m),by decide+kernel,by decide+kernel,by decide+kernel,by decide+kernel⟩
 ·rw[dM,dM]
  exact⟨λe=>e▸.refl,sK⟩
 ·(refine Z (FQ n) ?_;rw[dM,KU])
  exact⟨λe=>by refine Z e ?_;exact⟨n,rfl⟩,λe=>e.2⟩
 ·rw[CQ n]
  constructor
  ·intro m
   refine⟨t,?_,dM t⟩;by_cases C:t=3;·clear n;subst C;replace m:=(if_pos rfl)▸m;cases KU.mp m;rfl
   ·replace m:=(if_neg C)▸m
    by_cases a:t=4;·clear C n;subst a;replace m:=(if_pos rfl)▸m;cases KU.mp m;rfl
    ·replace m:=(if_neg a)▸m
     by_cases b:t=5;·clear a C n;subst b;replace m:=(if_pos rfl)▸m;cases KU.mp m;rfl
     ·replace m:=(if_neg b)▸m;exact(nomatch m)
  ·rintro⟨u,e,r⟩
   rw[dM] at r;subst r;clear n;rcases f0 e with⟨rfl,rfl⟩ |⟨rfl,rfl⟩ |⟨rfl,rfl⟩<;>exact KU.mpr rfl
 ·rw[Bd n] at v⊢
  induction c:fK t with
  |false=>rw[c] at v;exact(v rfl).elim
  |true=>rw[if_pos rfl,dM];exact⟨xT c,rfl⟩
 ·rw[dM]
  rcases n with rfl |rfl<;>(rw[Bd (by decide)];decide)
 ·rw[ze n] at H;cases H
 ·rw[ze n] at H;cases H
 ·replace W:=(Ey n)▸W;exact(nomatch W)
 ·replace e:=zr▸e
  by_cases b:m=[0,5];·subst b;rw[ai.M.aP] at e;(replace e:=KP e;subst e);exact⟨5,rfl,by rw[dM]⟩
  ·replace e:=(ai.M.aI _ _ b)▸e
   by_cases a:m=[0,4];·clear b;subst a;rw[ai.M.aP] at e;(replace e:=KP e;subst e);exact⟨4,rfl,by rw[dM]⟩
   ·replace e:=(ai.M.aI _ _ a)▸e
    by_cases C:m=[0,3];·clear a b;subst C;rw[ai.M.aP] at e;(replace e:=KP e;subst e);exact⟨3,rfl,by rw[dM]⟩
    ·replace e:=(ai.M.aI _ _ C)▸e;exact al e
 ·(refine Z zr ?_;rw[dM])
  rcases f0 e with⟨rfl,rfl⟩ |⟨rfl,rfl⟩ |⟨rfl,rfl⟩<;>exact⟨_,rfl,.inl rfl⟩
noncomputable def iH(M:Hs)(t a b:Int):Hs:=M.zH (aH M.aC t (U (a,b)))
noncomputable def lx(M:Hs)(t x:Int):Hs:=M.mo x (M.bK x++[t])
noncomputable def eD(M:Hs)(t a b:Int):Hs:=(lx (lx (iH M t a b) t a) t b).bR (M.ak++[.qr t a b])
theorem HH{k i:Nat}(h:i<k):jr (hW k) ((12+i:Nat):Int)=U (.str "="):=by
 refine Z (hU _ _) ?_;unfold hW;refine Z (Lx (Lr 12 i)) (?_ :(NV k (V.str "="))[12+i-12]? =_)
 (rw[QI];exact Z (QF) (Z (if_pos h) rfl))
theorem CR{e:List (Int×Int)}{i:Nat}{p:Int×Int}(h:e[i]? =U p):jr (ez e) ((12+i:Nat):Int)=U (b' p):=by refine Z (hU _ _) ?_;unfold ez;refine Z (Lx (Lr 12 i)) (?_ :(e.map b')[12+i-12]? =_);simp only[QI,ML,h];rfl
theorem sO(R:AR h A)(H:ah A M)(S:mh M)(u:∀x,aj x->M.Y x=x){t:Int}(v:t∈fw)(d:aj a)(B:aj b)(E:a≠b)(y:M.aC t=KT)(w:∀x,aj x->(M.bK x).length<=100)(lt:M.ak.length<=1000)(L:M.a4.length<=1000)
  (q:∀h' A' N,AR h' A'->ah A' N->lA (eD M t a b) t N->Fr pL A A'->Q .none h'):cw (n+4) "place_watch" [Me,.int t,.int a,.int b] Q h:=by
 refine ab mE ⟨rfl,aY (dw (av (bj R H rfl (aB rfl (cI R H.Y (rd d) (av (bj R H rfl (aB rfl (cI R H.Y (rd B) (Z (u a d) (Z (u b B) (ax (Er (by decide:2<=aN) rfl (Er (aX rfl) (aX rfl) (aY (dw (av (aB rfl (av (aB rfl (ax ⟨(by decide:2<=aN),gg (bj R H rfl (aB rfl (cF R H.aC v λI j=>?_)))⟩)))))))))))))))))))))⟩;have g:ah (A.set 9 0 _) (iH M t a b):=H.An (dz (U (a,b)));refine e1 (bj j g rfl (aB rfl ?_));have C:∀{k:Nat},k<=101->k<aN:=λh=>K6 h (by decide);refine cI j g.bK (j3 d) (ic j (g.fW a d) (Z (bb _) (C (LH (w a d)))) λJ m=>?_);have i:ah _ (lx (iH M t a b) t a):=g.u2 (fB ((iH M t a b).bK a) [t]);have W:(lx (iH M t a b) t a).bK b=M.bK b:=ai.M.aI _ _ λe=>E e.symm;refine fH (iX (aB rfl (aB rfl (my E (e1 (bj m i rfl (aB rfl (cI m i.bK (j3 B) (ic m (i.fW b B) (by(refine Z (bb _) (Z W ?_));exact C (LH (w b B))) λK r=>?_)))))))));have f:ah _ (lx (lx (iH M t a b) t a) t b):=i.u2 (fB ((lx (iH M t a b) t a).bK b) [t]);refine nx (e1 (bj r f rfl (ab (aq r f.ak) ⟨rfl,av (dw (av (aS (av (aB rfl (av (aB rfl (av (aB rfl (ax ⟨(by decide:4<=aN),ax ⟨aq r f.ak,bJ r f.ak (Z (KS _) (K6 lt (by decide))) λP o=>?_⟩⟩))))))))))⟩)));have s:ah _ (eD M t a b):=f.c9 (l:=M.ak++[e0.qr t a b]) (dc M.ak (e0.qr t a b));have z:mh (eD M t a b):=⟨S.Y,S.bl,λx p e=>by
  have e:aH M.aC t (U (a,b)) x=U p:=e;by_cases c:x=t;·clear s o f r W i m g j q y;subst c;rw[ai.M.aP] at e;obtain rfl:=KP e;exact⟨d,B,v⟩
  ·replace e:=(ai.M.aI _ _ c)▸e;exact S.aC x p e⟩;refine e1 (bX o s rfl sF (a1 rfl (jT o s z (ai.M.aP _ _ _:(eD M t a b).aC t=U (a,b)) (K6 L (by decide)) ?_ λV X N D F T G=>q _ _ _ D F T (.trans (.trans (.trans (.set rfl) (.set rfl)) (.trans (.set rfl) (.set rfl))) (G.bT FC)))));·exact((Z (bf _) (K6 (Lp lt) (by decide))):(M.ak++[e0.qr t a b]).length<aN)
theorem xm(R:AR h A)(H:ah A M){p:Int×Int}(s:M.aC t=U p)(q:Q .none h):cw (n+1) "watch" [Me,.int t] Q h:=by exact ab qL ⟨rfl,fH (iX (aB rfl (bj R H rfl (qZ R H.aC (Z s (bW rfl ⟨_,_,.refl,q⟩))))))⟩
theorem xh(R:AR h A)(H:ah A M)(S:mh M)(l:∀x,aj x->M.Y x=x){i:Nat}{a b:Int}(I:M.ce[i]? =U (a,b))(z:i<3)(c:aj a)(B:aj b)(E:a≠b)(s:M.aC ((12+i:Nat):Int)=KT)(w:∀x,aj x->(M.bK x).length<=100)(lt:M.ak.length<=1000)(L:M.a4.length<=1000)(d:M.aw=[])
  (q:∀h' A' N,AR h' A'->ah A' N->lA (eD M ((12+i:Nat):Int) a b) ((12+i:Nat):Int) N->Fr pL A A'->Q .none h'):cw (n+5) "watch" [Me,.int ((12+i:Nat):Int)] Q h:=by
 have m:((12+i:Nat):Int)∈fw:=by clear q s;rcases(by lia:i=0\/i=1\/i=2) with rfl |rfl |rfl<;>decide
 generalize e:((12+i:Nat):Int)=t at*;have p:jr (hW M.ce.length) t=U (.str "="):=hR e (HH ((LU.mp I).1:i<M.ce.length));have g:jr (ez M.ce) t=U (b' (a,b)):=hR e (CR I);refine ab qL ⟨rfl,fH (iX (aB rfl (bj R H rfl (qZ R H.aC (Z s (bH rfl (nx (aY (dw (av (aB rfl (av (bj R H rfl (pi R H rfl o' (ax (ab jw ⟨rfl,uY R H rfl ⟨_,_,.refl,ax ⟨(by decide:2<=aN),rfl,aX rfl,aX rfl,fH (iX (bj R H rfl (pi R H rfl rV (a1 rfl ?_))))⟩⟩⟩))))))))))))))))⟩;refine ab ut ⟨rfl,uY R H rfl (jX R H.ops p ⟨_,_,.refl,aS (AT (bW rfl (aY (bj R H rfl (pi R H rfl gp (a1 rfl (ab m6 ⟨rfl,uY R H rfl (jX R H.args g ⟨_,_,.refl,(vV rfl (aX rfl) (aX rfl) (e1 (bX R H rfl cr (a1 rfl (ee R H c d λC D r f F=>e1 (bX r f rfl cr (a1 rfl (ee r f B d λG J j k o=>e1 (bX j k rfl mw (a3 rfl rfl rfl (sO j k S l m c B E s w lt L λK P N u v T y=>?_)))))))))))⟩)⟩)))))))⟩)⟩;exact q _ _ _ u v T ((F.trans o).trans y)
structure EZ(es:List (bQ×V))(e:List (Int×Int)):Prop where
 k:∀a b v,bc es ⟨"=",[a,b],0,.int 0⟩=U v->∃i:Nat,e[i]? =U (a,b)/\v=.int ((12+i:Nat):Int)
 l:es.length<=11+e.length
theorem EZ.nil:EZ D5 []:=⟨λa b v e=>by simp[D5,n4,hu] at e,by decide⟩
theorem EZ.add{s:List (Int×Int)}(E:EZ es s){a b:Int}:EZ (bA es ⟨"=",[a,b],0,.int 0⟩ (.int ((12+s.length:Nat):Int))) (s++[(a,b)]):=by
 refine⟨λx y v e=>?_,?_⟩
 ·rw[eL] at e
  by_cases c:(⟨"=",[x,y],0,.int 0⟩:bQ)=⟨"=",[a,b],0,.int 0⟩
  ·rw[if_pos c] at e
   obtain rfl:=KP e;cases c;exact⟨s.length,by(refine Z (Lx (K9 _)) ?_;rw[Nb]);rfl,rfl⟩
  ·rw[if_neg c] at e
   exact aD (E.k x y v e) λi h H=>⟨i,by refine Z (Mo (LU.mp h).1) ?_;exact h,H⟩
 ·simp only[bf];exact KQ (iy _ _ _) (Lp E.l)
noncomputable def Hs.iK(M:Hs)(e:List (Int×Int)):Hs:={M with ce:=e}
structure WI(l:Nat)(A:AH)(cs:List Int)(M:Hs)(S:Ls)(s:List V)(es:List (bQ×V)):Prop where
 H:ah A M
 L:et A cs S
 C:cN [] M [] []
 to:TO [] M []
 el:M.ce.length<=l
 os:A.o 34 0=U (.list s)
 on:A.o 36 0=U (.dN es)
 sl:s.length<=12+l
 en:EZ es M.ce
 si:∀t p,M.aC t=U p->∃i:Nat,t=((12+i:Nat):Int)/\M.ce[i]? =U p
 is:∀(i:Nat) p,M.ce[i]? =U p->M.aC ((12+i:Nat):Int)=U p
 wd:∀t a b,S.wd t=U (a,b)->aj a/\aj b/\(M.aC t=U (a,b)\/M.aC t=U (b,a))
 sw:∀t,(M.aC t).isSome=true->(S.wd t).isSome=true
 tr:M.ak.length<=12+2*l
 nl:M.a4.length<=l
 nu:∀t∈M.a4,t∈fw/\(S.wd t).isSome=true
 hq:M.aw=[]
 hc:M.aU=KT
 ms:M.am=[]
 wt:oD M (λt=>(M.bK t).length)<=2*l
 lv:S.a0=[[]]
 tl:∀t,S.tl t=KT
 eq:∀k,S.eq k=KT
section
variable {l:Nat} {Un:List V}
theorem i'(C:cN [] M [] []):∀x,aj x->M.Y x=x:=λx n=>sK ((C.ro (M.Y x) x (C.rn x n) n).mp (C.rr x n))
theorem WI.more(W:WI l A cs M S Un es):WI (l+1) A cs M S Un es:=
 ⟨W.H,W.L,W.C,W.to,LH W.el,W.os,W.on,LH W.sl,W.en,W.si,W.is,W.wd,W.sw,by have:=W.tr;exact bM (gF _ _) 0x712113823c313712823c3 rfl this,LH W.nl,W.nu,W.hq,W.hc,W.ms,by have:=W.wt;exact bM (gF _ _) 0x721138231372823 rfl this,W.lv,W.tl,W.eq⟩
theorem WI.vP(R:AR h A)(W:WI l A cs M S Un es)(s:S.spot<=1000)(q:∀v,0<=v->v<9->∀h' A',AR h' A'->WI l A' cs M {S with spot:=S.spot+1} Un es->fv A A'->Q (.int v) h'):lw (n+1) "_law_next" [.ref (A.R 40 0),.int 9] Q h:=by exact next R W.L s (by decide) λv V a h' A' r L f e=>q v V a h' A' r ⟨W.H.r3 (f.bT D7),L,W.C,W.to,W.el,(f 34 0 rfl).1.trans W.os,(f 36 0 rfl).1.trans W.on,W.sl,W.en,W.si,W.is,W.wd,W.sw,W.tr,W.nl,W.nu,W.hq,W.hc,W.ms,W.wt,W.lv,W.tl,W.eq⟩ ⟨e,cL f rfl,cL f rfl⟩
theorem wN(nx:aj x)(h:M.Y x=x):oD (lx M t x) (λy=>((lx M t x).bK y).length)<=oD M (λy=>(M.bK y).length)+1:=by
 have e:oD (lx M t x) (λy=>((lx M t x).bK y).length)=sm (λy=>if y=x then(if M.Y y=y then(M.bK y).length else 0)+1 else(if M.Y y=y then(M.bK y).length else 0)) ar:=by
  refine iV λy _=>?_;show(if M.Y y=y then(aH M.bK x (M.bK x++[t]) y).length else 0)=_;by_cases c:y=x;·clear nx;subst c;(refine Z (if_pos rfl) (Z (if_pos h) (Z (if_pos h) ?_));(rw[ai.M.aP];exact Z (bf _) rfl))
  ·exact Z (if_neg c) (Z (ai.M.aI _ _ c) rfl)
 exact Z e (Z (oL dx) (L2 (by split<;>decide) _))
theorem u1{t:Int}(C:cN [] M [] [])(T:t∈fw)(n:aj a)(N:aj b)(S:M.aC t=KT)(w:oD (eD M t a b) (λy=>((eD M t a b).bK y).length)<=6):cN [] (eD M t a b) [] []:=by
 have H:∀{x p},M.aC x=U p->aH M.aC t (U (a,b)) x=U p:=λ{x p} e=>by exact Z (ai.M.aI _ _ λc=>by rw[c,S] at e;exact al e) e
 refine⟨C.1,C.2,C.3,C.4,C.5,C.6,C.7,C.8,C.9,C.10,C.11,C.12,C.13,C.14,λx nx v V=>?_,λx p e=>?_,C.17,C.18,C.19,C.20,C.21,C.22,C.23,w⟩
 ·have dZ:∀(m:Hs) (y:Int),v∈(lx m t y).bK x->v∈m.bK x\/v=t:=λm y h=>by
   have h:v∈aH m.bK y (m.bK y++[t]) x:=h;by_cases c:x=y
   ·subst c;rw[ai.M.aP] at h
    exact(K8.mp h).imp id KU.mp
   ·rw[ai.M.aI _ _ c] at h;exact .inl h
  clear w S T;rcases dZ _ _ V with h |rfl
  ·clear V;rcases dZ _ _ h with h |rfl
   ·exact cY (C.wa x nx v h) λs d=>⟨s,H d⟩
   ·exact⟨_,ai.M.aP _ _ _⟩
  ·exact⟨_,ai.M.aP _ _ _⟩
 ·have e:aH M.aC t (U (a,b)) x=U p:=e
  by_cases c:x=t;·clear H w S;subst c;rw[ai.M.aP] at e;obtain rfl:=KP e;exact⟨n,N,T⟩
  ·rw[ai.M.aI _ _ c] at e;exact C.si x p e
theorem ah.Hj(H:ah A M){k:Nat}(f:Fr pB A A')(st:∀k t,A'.st k t=A.st k t)(e:k=M.ce.length)(a:A'.o 32 0=U (.list (hW k++[.str "="])))(b:A'.o 33 0=U (.list (ez M.ce++[b' p])))(c:A'.o 35 0=U (.list (dU k++[.int 0]))):ah A' (M.iK (M.ce++[p])):=by
 have es:A'.st=A.st:=funext λk=>funext λt=>st k t;have o:∀k t,pB k=true->A'.o k t=A.o k t:=λk t q=>(f k t q).1;have F:bC A' (M.iK (M.ce++[p]))=bC A M:=by have q:=congrArg (λs=>bC ⟨s,A.o,A.vr,A.nn⟩ M) es;exact q
 have B:dA A'=dA A:=by have q:=congrArg (λs=>dA ⟨s,A.o,A.vr,A.nn⟩) es;exact q
 have E:∀k,jD A' k=jD A k:=λk=>by have q:=congrArg (λs=>jD ⟨s,A.o,A.vr,A.nn⟩ k) es;exact q
 have l:(M.ce++[p]).length=k+1:=by rw[e];exact bf _
 have h:hW k++[V.str "="]=hW (M.ce++[p]).length:=by rw[l];unfold hW;simp only[Lj,Q5]
 have d:ez M.ce++[b' p]=ez (M.ce++[p]):=by unfold ez;simp only[Lj,Lm];rfl
 have g:dU k++[V.int 0]=dU (M.ce++[p]).length:=by rw[l];unfold dU;simp only[Lj,Q5]
 exact⟨H.cl,(st 30 0).trans H.sn,(st 31 0).trans H.bn,(o 30 0 rfl).trans (H.self.trans (by rw[F])),(o 1 0 rfl).trans H.Y,(o 2 0 rfl).trans (H.mem.trans (by rw[E])),(o 3 0 rfl).trans (H.aM.trans (by rw[E])),(o 4 0 rfl).trans H.val,(o 5 0 rfl).trans (H.bl.trans (by rw[E])),(o 6 0 rfl).trans (H.bK.trans (by rw[E])),
  (o 7 0 rfl).trans H.up,(o 8 0 rfl).trans H.bt,(o 9 0 rfl).trans H.aC,(o 10 0 rfl).trans H.a7,(o 11 0 rfl).trans H.a4,(o 12 0 rfl).trans H.aw,(o 13 0 rfl).trans H.ak,(o 14 0 rfl).trans H.am,λt n=>(o 21 t rfl).trans (H.fp t n),λt n=>(o 22 t rfl).trans (H.c8 t n),λt n=>(o 23 t rfl).trans (H.ec t n),λt n=>(o 24 t rfl).trans (H.fW t n),
  (o 31 0 rfl).trans (H.fC.trans (by rw[B])),a.trans (by rw[h];rfl),b.trans (by rw[d];rfl),c.trans (by rw[g];rfl)⟩
theorem ah.HL(H:ah A M)(os:A.o 34 0=U (.list Un))(o:A.o 36 0=U (.dN es))(l:M.ce.length<=20)(L:Un.length<=100)(a:es.length<=100):j8 A (dA A) (hW M.ce.length) (ez M.ce) Un (dU M.ce.length) es:=by
 refine⟨H.bn,H.fC,rfl,rfl,rfl,rfl,rfl,H.ops,H.args,os,H.bF,o,?_,?_,L,?_,a⟩;·unfold hW;exact Z KW (Z N5 (KQ (L2 l _) (by decide)))
 ·unfold ez;(refine Z KW (Z (KS _) ?_));exact KQ (L2 l _) (by decide)
 ·unfold dU;exact Z KW (Z N5 (KQ (L2 l _) (by decide)))
theorem et.DN(L:et A cs S){t:Int}{p:Int×Int}{g:Int->Option V}(e:g=λx=>(aH S.wd t (U p) x).map b'):et (A.set 46 0 (.dI fw g)) cs {S with wd:=aH S.wd t (U p)}:=
 ⟨L.cl,L.nA,L.gV,L.bI,L.a0,L.lf,by refine Z e ?_;rfl,L.tl,L.eq⟩
theorem Jc(k:Nat)(h:p4 k=true):pB k=true:=by have H:=((LL ..).mp ((h:(LS 39 k&&LS k 49)=true))).1;simp only[Nc] at H;unfold pB;exact Z (show LS 36 k=true from by rw[Nc];exact bM (kS _) 0x1132447131132747 rfl H) (Z (Bool.or_true _) rfl)
end
theorem FZ:G1 "BOOL"=U (.int 0):=by kernel_rfl
section
variable {l:Nat} {Un:List V}
theorem EG(x y:Int):∃a b,(if y<x then y else x)=a/\(if x<y then y else x)=b/\((a=x/\b=y)\/(a=y/\b=x)):=by
 refine⟨_,_,rfl,rfl,?_⟩;by_cases c:y<x;·exact Z (if_pos c) (Z (if_neg (by lia)) (.inr ⟨rfl,rfl⟩))
 ·refine Z (if_neg c) ?_
  by_cases d:x<y;·exact Z (if_pos d) (.inl ⟨rfl,rfl⟩)
  ·exact Z (if_neg d) (.inl ⟨rfl,by lia⟩)
theorem HE{a b:Int}(q:Q (.int (if b<a then b else a)) h):pQ .min [.int a,.int b] Q h:=q
theorem HC{a b:Int}(q:Q (.int (if a<b then b else a)) h):pQ .max [.int a,.int b] Q h:=q
theorem rX{i:Nat}(h:i<3):((12+i:Nat):Int)∈fw:=by rcases(by lia:i=0\/i=1\/i=2) with rfl |rfl |rfl<;>decide
theorem nf{p:Int×Int}{f:Int->Option (Int×Int)}{x:Int}(h:(f x).isSome=true):(aH f t (U p) x).isSome=true:=by
 by_cases c:x=t;·subst c;refine Z (ai.M.aP _ _ _) ?_;rfl
 ·exact Z (ai.M.aI _ _ c) h
theorem WI.vk(W:WI l A cs M S Un es){i:Nat}{a b x y:Int}(H:M.ce[i]? =U (a,b))(nx:aj x)(n:aj y)(or:(a=x/\b=y)\/(a=y/\b=x)){g:Int->Option V}(e:g=λz=>(aH S.wd ((12+i:Nat):Int) (U (x,y)) z).map b'):
  WI (l+1) (A.set 46 0 (.dI fw g)) cs M {S with wd:=aH S.wd ((12+i:Nat):Int) (U (x,y))} Un es:=by
 have w:=W.more;refine⟨W.H.r3 (.set rfl),W.L.DN e,W.C,W.to,w.el,W.os,W.on,w.sl,W.en,W.si,W.is,λt u v h=>?_,λt h=>nf (W.sw t h),w.tr,w.nl,λt m=>⟨(W.nu t m).1,nf (W.nu t m).2⟩,W.hq,W.hc,W.ms,w.wt,W.lv,W.tl,W.eq⟩;have h:aH S.wd ((12+i:Nat):Int) (U (x,y)) t=U (u,v):=h;by_cases c:t=((12+i:Nat):Int)
 ·subst c;rw[ai.M.aP] at h;obtain⟨rfl,rfl⟩:=LQ (KP h)
  refine⟨nx,n,?_⟩;have:=W.is i _ H;clear nx h e n;clear h;rcases or with⟨rfl,rfl⟩ |⟨rfl,rfl⟩
  ·exact .inl this
  ·exact .inr this
 ·rw[ai.M.aI _ _ c] at h;exact W.wd t u v h
theorem y0{a:Type}{f:Int->Option a}{q w:a}(e:aH f t (U q) z=U w):(z=t/\q=w)\/(z≠t/\f z=U w):=by
 by_cases c:z=t;·exact .inl ⟨c,KP ((ai.M.aP f t (U q)).symm.trans (c▸e))⟩
 ·exact .inr ⟨c,(ai.M.aI _ _ c).symm.trans e⟩
theorem CG{a:Type}{l:List a}{x p:a}{i:Nat}(e:(l++[x])[i]? =U p):l[i]? =U p\/(i=l.length/\x=p):=by
 refine K4 (OR i l.length) (λlt=>.inl ((Mo lt).symm.trans e)) λg=>?_
 ·have e:[x][i-l.length]? =U p:=(Lx g).symm.trans e
  have lt:=(LU.mp e).1;rw[List.length_singleton] at lt;have E:i=l.length:=Md (Nat.sub_eq_zero_iff_le.mp (Nat.lt_one_iff.mp lt)) g;rw[E,Nb] at e;exact .inr ⟨E,KP e⟩
theorem Cj{a:Type}{l:List a}{x:a}:(l++[x])[l.length]? =U x:=by
 (refine Z (Lx (K9 _)) (Z (Nb _) ?_));rfl
theorem HV{f:Int->Option (Int×Int)}{l:List (Int×Int)}{q p:Int×Int}{t z:Int}(s:∀z p,f z=U p->∃i:Nat,z=((12+i:Nat):Int)/\l[i]? =U p)(E:((12+l.length:Nat):Int)=t)(e:aH f t (U q) z=U p):∃i:Nat,z=((12+i:Nat):Int)/\(l++[q])[i]? =U p:=
 (y0 e).elim (λw=>⟨l.length,w.1.trans E.symm,w.2▸Cj⟩) λw=>(s z p w.2).elim λi v=>⟨i,v.1,(Mo (LU.mp v.2).1).trans v.2⟩
theorem Gw{f:Int->Option (Int×Int)}{l:List (Int×Int)}{q:Int×Int}{t:Int}{i:Nat}(I:∀(i:Nat) p,l[i]? =U p->f ((12+i:Nat):Int)=U p)(n:f t=KT)(E:((12+l.length:Nat):Int)=t)(e:(l++[q])[i]? =U p):aH f t (U q) ((12+i:Nat):Int)=U p:=
 (CG e).elim (λe=>(ai.M.aI _ _ λc=>al (n.symm.trans (c▸I i p e))).trans (I i p e)) λw=>by exact Z w.1 (Z E (hR w.2 (ai.M.aP _ _ _)))
theorem Ia{f w:Int->Option (Int×Int)}{t a x y u v:Int}(W:∀t a b,w t=U (a,b)->aj a/\aj b/\(f t=U (a,b)\/f t=U (b,a)))(F:f t=KT)(n:aj a)(N:aj b)(or:(a=x/\b=y)\/(a=y/\b=x))(e:aH w t (U (x,y)) z=U (u,v)):
  aj u/\aj v/\(aH f t (U (a,b)) z=U (u,v)\/aH f t (U (a,b)) z=U (v,u)):=by
 clear F;rcases y0 e with⟨rfl,E⟩ |⟨c,e⟩
 ·obtain⟨rfl,rfl⟩:=LQ E
  refine Z (ai.M.aP _ _ _) ?_;clear e E;rcases or with⟨rfl,rfl⟩ |⟨rfl,rfl⟩
  ·exact⟨n,N,.inl rfl⟩
  ·exact⟨N,n,.inr rfl⟩
 ·exact Z (ai.M.aI _ _ c) (W z u v e)
theorem tG{f w:Int->Option (Int×Int)}{z:Int}{p q:Int×Int}(s:(f z).isSome=true->(w z).isSome=true)(e:(aH f t (U p) z).isSome=true):(aH w t (U q) z).isSome=true:=by
 by_cases c:z=t;·(refine Z c ?_;rw[ai.M.aP]);rfl
 ·rw[ai.M.aI _ _ c] at e⊢;exact s e
theorem WI.new(W:WI l A cs M S Un es)(C:l<3){t a b x y:Int}(j:((12+M.ce.length:Nat):Int)=t)(n:aj a)(B:aj b)(or:(a=x/\b=y)\/(a=y/\b=x))(H:ah A' N)(L:et A' cs {S with wd:=aH S.wd t (U (x,y))})(T:lA (eD (M.iK (M.ce++[(a,b)])) t a b) t N){k:V}{E:List (bQ×V)}
  (os:A'.o 34 0=U (.list (Un++[k])))(J:A'.o 36 0=U (.dN E))(K:EZ E (M.ce++[(a,b)])):WI (l+1) A' cs N {S with wd:=aH S.wd t (U (x,y))} (Un++[k]) E:=by
 have Q:t∈fw:=hR j (rX (K6 W.el C));have s:M.aC t=none:=by
  induction c:M.aC t with
  |none=>rfl
  |some p=>refine aD (W.si t p c) λi D o=>?_;have:=(LU.mp o).1;omega
 have G:cN [] (M.iK (M.ce++[(a,b)])) [] []:=W.C.cg rfl rfl rfl rfl rfl rfl rfl rfl rfl;have r:=i' G;have R:=wN (M:=iH (M.iK (M.ce++[(a,b)])) t a b) (t:=t) n (r a n);have w0:oD (iH (M.iK (M.ce++[(a,b)])) t a b) (λy=>((iH (M.iK (M.ce++[(a,b)])) t a b).bK y).length)<=2*l:=W.wt;have I:oD (eD (M.iK (M.ce++[(a,b)])) t a b) (λy=>((eD (M.iK (M.ce++[(a,b)])) t a b).bK y).length)<=2*l+2:=KQ (wN (M:=lx (iH (M.iK (M.ce++[(a,b)])) t a b) t a) (t:=t) B (r b B)) (bM (io _ _ _) 0x1137123282313711391392823 rfl R w0);have P:∀{x p},M.aC x=U p->aH M.aC t (U (a,b)) x=U p:=λ{x p} e=>by exact Z (ai.M.aI _ _ λc=>by replace e:=s▸c▸e;exact al e) e
 have F:dd [] (eD (M.iK (M.ce++[(a,b)])) t a b) [] []:=by
  refine⟨(u1 G Q n B s (bM (gF _ _) 0x763231138331371232823 rfl C I)),⟨λe=>?_,λm x y h=>(nomatch h)⟩,λz c e=>?_⟩
  ·have h7:=r 7 (by decide);have h8:=r 8 (by decide)
   have e:M.Y 7=M.Y 8:=e;replace e:=(h8:M.Y 8=8)▸(h7:M.Y 7=7)▸e;exact absurd e (by decide)
  ·refine aD (W.to z c e) λp D o=>?_
   exact⟨p,P D,o⟩
 refine xS (F.jT T) λf X c1 q1 q d r1 v1=>?_;have sN:N.aC=aH M.aC t (U (a,b)):=X.aC;have g:N.ce=M.ce++[(a,b)]:=X.ce;have q:N.a4.length<=M.a4.length+1:=q;have d:N.ak.length<=(M.ak++[e0.qr t a b]).length+1:=d;rw[bf] at d;have a1:=W.nl;have a2:=W.tr;have a3:=W.el;refine⟨H,L,f.C,f.to,by(refine Z g (Z (bf _) ?_));exact bM (gF _ _) 0x113711381378 rfl a3,os,J,by refine Z (bf _) ?_;exact Lp W.sl,by refine Z g ?_;exact K,λz p e=>Z g (HV W.si j (hR sN e)),λi p e=>Z sN (Gw W.is s j (hR g e)),λz u v e=>Z sN (Ia W.wd s n B or e),λz e=>tG (W.sw z) (hR sN e),bM (io _ _ _) 0x712113823c3137113113913912823c3 rfl d a2,bM (io _ _ _) 0x7113813711391398 rfl q a1,λz m=>?_,q1.trans W.hq,c1.trans W.hc,X.am.trans W.ms,?_,W.lv,W.tl,W.eq⟩;·exact(X.a4 z m).elim (λh=>⟨(W.nu z h).1,nf (W.nu z h).2⟩) λw=>⟨w.2.1,tG (W.sw z) w.2.2⟩
 ·have:oD N (λt=>(N.bK t).length)=oD (eD (M.iK (M.ce++[(a,b)])) t a b) (λy=>((eD (M.iK (M.ce++[(a,b)])) t a b).bK y).length):=by unfold oD;exact Z r1 (Z v1 rfl)
  exact Z this (bM (gF _ _) 0x721138231371232823 rfl I)
noncomputable def Gr:List St:=[
    .a8 (.var 8) (.az (.var 3) "make" [.aE (.str "="),.aA [.bi .min [.var 6,.var 7],.bi .max [.var 6,.var 7]],.c4 "BOOL",.aE (.int 0)]),
    .a8 (.sub (.sub (.var 1) (.aE (.str "watched"))) (.var 8)) (.aA [.var 6,.var 7]),
    .expr (.az (.var 2) "watch" [.var 8])]
theorem Fb{C D x8:Option V}{P:PS}(R:AR h A)(W:WI l A cs M S Un es)(L:l<3)(X:aj x)(G:aj y)(ne:x≠y)(q:∀h' A' M' S' k I z,AR h' A'->WI (l+1) A' cs M' S' k I->S'.spot=S.spot->fv A A'->P .next [C,U (.ref (A.R 42 0)),U Me,U Bk,U (.fl (ae ar)),D,U (.int x),U (.int y),z] h'):
  St.bh G1 (lw (n+6)) Gr [C,U (.ref (A.R 42 0)),U Me,U Bk,U (.fl (ae ar)),D,U (.int x),U (.int y),x8] P h:=by
 refine cR (EG x y) λa b ea eb or=>?_;have nn:aj a/\aj b/\a≠b:=by
  clear eb ea q;rcases or with⟨rfl,rfl⟩ |⟨rfl,rfl⟩
  ·exact⟨X,G,ne⟩
  ·exact⟨G,X,λe=>ne e.symm⟩
 refine cH nn λna nb J=>aY (ab rfl (pi R W.H rfl gv (av (aS (av (dw (av (k3 (av (aB rfl (av (aB rfl (ax (HE (av (k3 (av (aB rfl (av (aB rfl (ax (HC (ax ⟨(by decide:2<=aN),Z ea (Z eb (av (ab FZ (av (aS (ax ?_))))))⟩)))))))))))))))))))))));have B:=W.H.HL W.os W.on (by have:=W.el;exact bM (gF _ _) 0x7144131138331378 rfl L this) (by have:=W.sl;exact bM (gF _ _) 0x76441311383313718c3 rfl L this) (by have:=W.en.l;have:=W.el;lia);have hk:gC (.aA [.str "=",.aA [.int a,.int b],.int 0,.int 0])=U ⟨"=",[a,b],0,.int 0⟩:=rfl;have ko:(hW M.ce.length).length=12+M.ce.length:=by unfold hW;refine Z KW (Z N5 ?_);rfl
 have ka:(ez M.ce).length=12+M.ce.length:=by unfold ez;(refine Z KW (Z (KS _) ?_));rfl
 have kd:(dU M.ce.length).length=12+M.ce.length:=by unfold dU;refine Z KW (Z N5 ?_);rfl
 have d:=W.el;have K:=W.sl;have aa:=W.en.l;induction c:bc es ⟨"=",[a,b],0,.int 0⟩ with
 |some v=>
  refine aD (W.en.k a b v c) λi H E=>?_;subst E;have i3:i<3:=by have:=(LU.mp H).1;exact bM (io _ _ _) 0x1137331311383313981311379 rfl L d this
  refine zu R B hk c (by lia) ⟨aX rfl,aY (dw (av (aB rfl (av (aB rfl (ax ⟨(by decide:2<=aN),gg (eV (aB rfl (aS (dm R W.L.bI (i:="watched") rfl (aB rfl (cF R W.L.wd (rX i3) λh2 r=>?_))))))⟩))))))⟩;have w:=W.vk H X G or (dz (U (x,y)));exact e1 (ab rfl (bX r w.H rfl qG (a1 rfl (xm r w.H (w.is i _ H) (nx (q _ _ _ _ _ _ _ r w rfl ⟨rfl,rfl,rfl⟩))))))
 |none=>
  refine kO R B hk c (Z ko (bM (gF _ _) 0x11317c3644131138331378 rfl L d)) (Z ka (bM (gF _ _) 0x11317c3644131138331378 rfl L d)) (bM (gF _ _) 0x11376441311383313718c3 rfl L K) (Z kd (bM (gF _ _) 0x11317c3644131138331378 rfl L d)) (bM (io _ _ _) 0x113764413113833139813719b3 rfl L d aa) λh1 u R1 m F1 s _=>⟨aX rfl,?_⟩;have L1:=W.L.fr (F1.bT Jc);have o:u.R 42 0=A.R 42 0:=congrArg (cq.mk 42 0) (s 42 0);have o6:=m.o6;rw[ko] at o6⊢;generalize j:((12+M.ce.length:Nat):Int)=t at*;have ht:t∈fw:=hR j (rX (by exact K6 ‹_› ‹_›));refine hR o (aY (dw (av (aB rfl (av (aB rfl (ax ⟨(by decide:2<=aN),gg (eV (aB rfl (aS (dm R1 L1.bI (i:="watched") rfl (aB rfl (cF R1 L1.wd ht λh2 r=>?_))))))⟩)))))));have H2:ah (u.set 46 0 (.dI fw (ft (λz=>(S.wd z).map b') t (U (b' (x,y)))))) (M.iK (M.ce++[(a,b)])):=(W.H.Hj F1 s rfl m.o2 m.o3 m.o5:ah u (M.iK (M.ce++[(a,b)]))).r3 (.set rfl);have C1:cN [] (M.iK (M.ce++[(a,b)])) [] []:=W.C.cg rfl rfl rfl rfl rfl rfl rfl rfl rfl;have H:(M.iK (M.ce++[(a,b)])).ce[M.ce.length]? =U (a,b):=by
   refine(?_ :(M.ce++[(a,b)])[M.ce.length]? =_)
   (refine Z (Lx (K9 _)) (Z (Nb _) ?_));rfl
  have hs:M.aC t=KT:=by
   induction c:M.aC t with
   |none=>rfl
   |some p=>refine aD (W.si t p c) λi h1 h2=>?_;have:=(LU.mp h2).1;lia
  have hw:∀x,aj x->(M.bK x).length<=100:=λx nx=>by have:=lB (f:=λt=>(M.bK t).length) nx (i' W.C x nx);have:=W.wt;lia
  have tr:=W.tr;have nl:=W.nl;have wn:=xh (n:=n+1) (Q:=λv h=>St.bh G1 (lw (n+6)) [] [C,U (.ref (u.R 42 0)),U Me,U Bk,U (.fl (ae ar)),D,U (.int x),U (.int y),U (.int t)] P h) r H2 C1.Ed (i' C1) H (K6 ‹_› ‹_›) na nb J (Z j hs) hw (((bM (gF _ _) 0x7003e852311383313712823c3 rfl L tr):M.ak.length<=1000)) (((bM (gF _ _) 0x7003e85131138331378 rfl L nl):M.a4.length<=1000)) W.hq (λh3 A3 N R3 H3 T F=>by replace T:=j▸T;exact nx (Z o (q _ _ _ _ _ _ _ R3 (W.new L j na nb or H3 ((L1.DN (g:=ft (λz=>(S.wd z).map b') t (U (b' (x,y)))) (dz (U (x,y)))).fr (F.bT nz)) T ((F 34 0 rfl).1.trans m.o4) ((F 36 0 rfl).1.trans o6) (hR j W.en.add)) rfl ⟨(cL F rfl).trans (congrArg (cq.mk 40 0) (s 40 0)),(cL F rfl).trans (congrArg (cq.mk 41 0) (s 41 0)),(cL F rfl).trans (congrArg (cq.mk 42 0) (s 42 0))⟩)));replace wn:=j▸wn;exact e1 (ab rfl (bX r H2 rfl qG (a1 (v:=V.int t) rfl wn)))
noncomputable def F9(A:AH)(x x6 x7 x8:Option V):aV:=[U (.ref (A.R 40 0)),U (.ref (A.R 42 0)),U Me,U Bk,U (.fl (ae ar)),x,x6,x7,x8]
theorem vL(s:fv A B):F9 A x x6 x7 x8=F9 B x x6 x7 x8:=by unfold F9;exact Z s.a (Z s.c rfl)
noncomputable def Jt:List St:=match g7.body.drop 1 with
 |.for _ _ b::_=>b
 |_=>[]
inductive Jn(A0:AH)(cs:List Int)(l:List V)(J:aV)(h:Hp):Prop
 |mk (A:AH) (i:Nat) (M:Hs) (S:Ls) (Un:List V) (es:List (bQ×V)) (x x6 x7 x8:Option V) (H:i<=3) (e:l=((L3 3).map λ(i:Nat)=>V.int i).drop i) (d9:J=F9 A x x6 x7 x8) (R:AR h A) (W:WI i A cs M S Un es) (p:S.spot=1+2*i) (s:fv A0 A)
theorem IS{P:PS}(R:AR h A)(W:WI l A cs M S Un es)(L:l<3)(p:S.spot<=100)
  (q:∀h' A' m S' s e j k o,AR h' A'->WI (l+1) A' cs m S' s e->S'.spot=S.spot+2->fv A A'->P .next (F9 A' (U (.int l)) j k o) h'):
  St.bh G1 (lw (n+6)) Jt (F9 A (U (.int l)) x6 x7 x8) P h:=by
 refine aY (dw (av (eV (aB rfl (w_call (av (aB rfl (av (aS (ax (WI.vP R W (KQ p (by decide)) λv x x9 H G u B a=>ab (f7 x x9).1 (Z (vL a) (av (eV (aB rfl (w_call (av (aB rfl (av (aS (ax (WI.vP u B (KQ (Lp p) (by decide)) λy d f I J r w b=>ab (f7 d f).1 (ax ⟨(by decide:2<=aN),rfl,aX rfl,aX rfl,Z (vL b) ?_⟩)))))))))))))))))))))));refine fH (iX (aB rfl (aB rfl ?_)));by_cases c:3+v=3+y;·exact po c (nx (nx (q _ _ _ _ _ _ (U (.int (3+v))) (U (.int (3+y))) x8 r w.more rfl (a.trans b))))
 ·refine my c (Fb (n:=n) r w L (f7 x x9).2 (f7 d f).2 c λK N Q T t E z C D F i=>nx ?_)
  have g:=q _ _ _ _ _ _ (U (.int (3+v))) (U (.int (3+y))) z C D F ((a.trans b).trans i);rw[<-vL i] at g;exact g
theorem CU(R:AR h A)(W:WI 0 A cs M S Un es)(p:S.spot=1)(q:∀h' A' o S' t E,AR h' A'->WI 3 A' cs o S' t E->S'.spot=7->fv A A'->Q .none h'):lw (n+7) "_law_watched" [.ref (A.R 40 0),.ref (A.R 42 0),Me,Bk] Q h:=by
 refine ab oX ⟨rfl,aY (eV (aB rfl (aS (dm R W.L.bI (i:="some") rfl ⟨aX rfl,rI (k3 (av (aS (ax ⟨by decide,by decide,ab (a:=It.bo ((L3 3).map λ(i:Nat)=>V.int i)) rfl (iz (Jn A cs) ?_ ?_ _ ⟨A,0,M,S,Un,es,_,_,_,_,Lf _,rfl,rfl,R,W,p,.refl⟩)⟩))))⟩))))⟩
 ·intro v l J u K I k
  obtain⟨x,i,z,B,T,c,C,y,j,m,H,e,d9,r,w,s,d⟩:=I;have g:=f8 e.symm;subst d9;exact⟨aX rfl,Z g.2.1 (IS (n:=n) r w g.1 (KQ (K2 s) (KQ (L2 (NG 2 H) 1) (by decide))) λh4 D F G b f y j m L N P X=>k _ _ ⟨D,i+1,F,G,b,f,_,_,_,_,g.1,g.2.2,rfl,L,N,P.trans (congrArg (·+2) s),d.trans X⟩)⟩
 ·intro J u I
  obtain⟨x,i,z,B,T,c,C,y,j,m,H,e,d9,r,w,s,d⟩:=I;obtain rfl:i=3:=Md H (qy e);exact nx (q _ _ _ _ _ _ r w s d)
theorem WI.start(W:WI 3 A cs M S Un es):LB 0 A cs M S ⟨M,[],[]⟩/\LF M S ⟨M,[],[]⟩:=by
 have H:=i' W.C;have c:=h5 M;refine⟨⟨W.H,W.L,rfl,by refine Z W.lv ?_;exact .base rfl W.ms,⟨?_,?_,?_,?_⟩,by have:=W.nl;lia,W.hq,W.nu,λt _ _=>W.tl t,λt p e=>(by rw[W.tl] at e;exact al e),λt p e=>(by rw[W.eq] at e;exact al e),W.wd,W.sw,λt p e=>(by rw[W.tl] at e;exact al e),Lf _,λ_ m=>(nomatch m),λ_ m=>(nomatch m),by refine Z W.lv ?_;decide⟩,⟨⟨W.C,⟨λe=>?_,λm x y h=>(nomatch h)⟩,W.to⟩,W.hc,⟨λt p e=>(by rw[W.tl] at e;exact al e),λt p e=>(by rw[W.eq] at e;exact al e)⟩⟩⟩
 ·refine(?_ :M.ak.length+20*cls M<=300+20*0)
  have:=W.tr;lia
 ·refine(?_ :0+20*cls M<=300)
  omega
 ·refine((Z W.hq (?_ :0+4*cls M<=40)):M.aw.length+4*cls M<=40);lia
 ·refine((Z W.ms ?_):M.am.length<=1000);decide
 ·simp only[H 7 (by decide),H 8 (by decide)] at e
  exact absurd e (by decide)
theorem ww(k:Nat)(t:Int){K:List V}{l:List String}(R:AR h A)(c:∀Q h,dH K vs Q h=bB (k2 K) λl=>l.Nodup/\l.length=vs.length/\l.length<=15/\∃k t,Q (.ref ⟨k,t,h.n⟩) (h.new k t (.dS (l.zip vs))))(e:k2 K=U l)(n:l.Nodup)(b:l.length=vs.length)(L:l.length<=15)
  (q:∀h',AR h' (A.new k t A.nn (.dS (l.zip vs)))->Q (.ref ⟨k,t,A.nn⟩) h'):dH K vs Q h:=by
 refine Z (c _ _) (ab e ⟨n,b,L,k,t,?_⟩);have e:=R.2;have:=R.new k t (x:=.dS (l.zip vs)) (a:=.dS (l.zip vs)) rfl;replace this:=e▸this;exact Z e (q _ this)
theorem zq{K:String}{es:List ai.Ex}{vs:List V}(k:Nat)(t:Int)(R:AR h A)(H:∀P:List V->Hp->Prop,P vs h->ai.Ex.bh G1 C es J P h)(q:∀h',AR h' (A.new k t A.nn (.dS []))->C (K++".__init__") (.eQ K ⟨k,t,A.nn⟩::vs) (DU (.eQ K ⟨k,t,A.nn⟩) Q) h'):
  ai.Ex.wp G1 C (.new K es) J Q h:=by
 refine H (λvs h=>∃k t,C (K++".__init__") (.eQ K ⟨k,t,h.n⟩::vs) (λv h'=>v=.none/\Q (.eQ K ⟨k,t,h.n⟩) h') (h.new k t (.dS []))) ⟨k,t,?_⟩;have e:=R.2;have:=R.new k t (x:=.dS []) (a:=.dS []) rfl;replace this:=e▸this;exact Z e (q _ this)
theorem zU{l:List V}(e:DK.vals J k=U l)(q:ai.Ex.bh G1 C vs J (DR Q l) h):ai.Ex.wp G1 C (.dict k vs) J Q h:=ab e q
theorem yM{es:List ai.Ex}(q:ai.Ex.bh G1 C es J (jA Q) h):ai.Ex.wp G1 C (.list es) J Q h:=q
theorem nB:"Bank"++".__init__"="Bank"++"."++"__init__":=by decide+kernel
theorem nC:"Congruence"++".__init__"="Congruence"++"."++"__init__":=by decide+kernel
noncomputable def A0:AH:=⟨λ_ _=>0,λ_ _=>KT,λ_ _=>0,0⟩
theorem R0:AR Hp.jH A0:=⟨λk t a e=>(nomatch e),rfl⟩
noncomputable def S0:Ls:=⟨1,[[]],λ_=>KT,λ_=>KT,λ_=>KT,0⟩
theorem ed.dA{fa fr ops S s d:List V}{k:Nat}(G:ed A k nm fa fr ops S s d es):A.o 31 0=U (.dS (dA A)):=by
 have e:Fp k=ai.L1.dA A:=by
  have g:∀{f:String} {v w:V},bc (Fp k) f=U v->bc (Fp k) f=U w->v=w:=λa b=>by rw[a] at b;exact KP b
  unfold ai.L1.dA;simp only[<-(g (v:=V.ref ⟨32,0,k+3⟩) rfl G.B.f2),<-(g (v:=V.ref ⟨33,0,k+4⟩) rfl G.B.f3),<-(g (v:=V.ref ⟨34,0,k+5⟩) rfl G.B.f4),<-(g (v:=V.ref ⟨35,0,k+6⟩) rfl G.B.f5),<-(g (v:=V.ref ⟨36,0,k+7⟩) rfl G.B.f6)];refine(?_ :_=[("sort_names",_),("sort_widths",_),("fun_names",V.ref ⟨37,0,A.st 37 0⟩),("fun_args",V.ref ⟨38,0,A.st 38 0⟩),("fun_results",V.ref ⟨39,0,A.st 39 0⟩),_,_,_,_,_,_,_,_]);simp only[G.s7,G.s8,G.s9];rfl
 exact Z G.B.self (Z e rfl)
theorem Gs{N:List Int}{P:PS}(q:∀h A (v:Nat),AR h A->aG A (λ_=>[]) M0->A.o 40 0=U (.dS [("cells",.fl (ae (N.take 50))),("spot",.int (1:Nat))])->A.o 41 0=U (.dI ar λt=>(ai.M.arg t).map V.int)->A.o 34 0=U (.list yi)->A.o 36 0=U (.dN D5)->v<=9->
   St.bh G1 (lw (n+9)) (lJ.body.drop 4) [U (.fl (ae N)),U (.ref (A.R 40 0)),U Bk,U (.int v),U (.fl (ae ar)),U (.ref (A.R 41 0)),U Me,KT,KT,KT,KT,KT,KT,KT,KT,KT,KT] P h):
  St.bh G1 (lw (n+9)) lJ.body [U (.fl (ae N)),KT,KT,KT,KT,KT,KT,KT,KT,KT,KT,KT,KT,KT,KT,KT,KT] P Hp.jH:=by
 have C:(N.take 50).length<=50:=Rd _ _;refine aY (zU rfl (av (k3 (av (wi (aB rfl (aS ⟨by decide,by decide,?_⟩)))))));have E:(ae N).take (50:Int).toNat=ae (N.take 50):=by unfold ae;refine Z NJ ?_;rfl
 refine Z E ?_;have L:(ae (N.take 50)).length<=aN:=Z (bb _) (KQ C (by decide));refine bz L (ax (zh (bz L (av (aS (ax (ww 40 0 (l:=["cells","spot"]) R0 (λ_ _=>rfl) rfl (by decide) rfl (by decide) λh1 j=>⟨aX rfl,aY (dw (av (zq 31 0 j (λ_ p=>p) λh2 k=>Z nB (yz (A:=(A0.new 40 0 0 _).new 31 0 1 _) (n:=n+7) k rfl rfl λh3 a u B F x S y z D G H=>⟨rfl,?_⟩))))⟩)))))));have r:(⟨40,0,A0.nn⟩:cq)=a.R 40 0:=(cL F rfl).symm;refine Z r (av (er (aS (w_call (av (aB rfl (av (aS (ax (DQ (n:=n+8) u C ((F 40 0 rfl).1:a.o 40 0=U (.dS [("cells",.fl (ae (N.take 50))),("spot",.int (0:Nat))])) (Lf _) (w:=9) (by decide) λv b v9 h4 I=>ni (bY (by decide) (by decide)) (bY b (by lia)) (ax (FH (by decide:2<=aN) rfl (aX rfl) (aX rfl) (cY (QK b) λm e=>?_)))))))))))));clear b;subst e;refine Z ((by lia:(1+(m:Int))=((1+m:Nat):Int))) ?_;have J:ed a 2 [] [] [] CF [.aA [],.aA [],.aA []] [.int 0,.int 0,.int 0] [.int 0,.int 0,.int 0] Ig:=⟨B,S,y,z,D,G,H⟩;refine aY (w_call (av (aB rfl (ax (H3 (n:=n+5) I (J.fr (.set rfl)) λh5 c nm fa fr K g o s i M=>⟨rfl,aX rfl,aX rfl,aY (zq 30 0 K (λ_ p=>a1 rfl p) λh6 R=>Z nC ?_)⟩)))));rw[(M.trans (congrArg (·+2) (x:a.nn=10)):c.nn=sN)] at R⊢;refine xW (A:=c.new 30 0 sN (.dS [])) (n:=n+8) R rfl rfl g.B.bn g.dA g.B.o2 g.B.o3 g.B.o5 λh7 d Q T f=>⟨rfl,aX rfl,?_⟩;have W:d.R 40 0=a.R 40 0:=congrArg (cq.mk 40 0) ((f 40 0 (by decide)).2.trans (i 40 0 rfl).2.1);have X:d.R 41 0=c.R 41 0:=congrArg (cq.mk 41 0) (f 41 0 (by decide)).2;exact hR W (hR X (q _ d (1+m) Q T ((f 40 0 (by decide)).1.trans (i 40 0 rfl).1) ((f 41 0 (by decide)).1.trans o) ((f 34 0 (by decide)).1.trans g.B.o4) ((f 36 0 (by decide)).1.trans g.B.o6) (by lia)))
theorem et.fo(L:et A cs S)(f:Fo A A'):et A' cs S:=by
 have r:∀k t,GG k=true->A'.R k t=A.R k t:=λk t e=>congrArg (cq.mk k t) (f k t e).2;have E:aO A' S.a0.length=aO A S.a0.length:=My λi _=>congrArg V.ref (r 45 i rfl);have a:zR A' S.g=zR A S.g:=by unfold zR;simp only[r 41 0 rfl,r 44 0 rfl,r 46 0 rfl,r 47 _ rfl,r 48 _ rfl]
 exact⟨L.cl,(f 40 0 rfl).1.trans L.nA,(f 41 0 rfl).1.trans L.gV,(f 42 0 rfl).1.trans (L.bI.trans (Z a rfl)),(f 44 0 rfl).1.trans (L.a0.trans (Z E rfl)),λi l e=>(f 45 i rfl).1.trans (L.lf i l e),(f 46 0 rfl).1.trans L.wd,(f 47 _ rfl).1.trans L.tl,(f 48 _ rfl).1.trans L.eq⟩
theorem Kl(H:ah A M9)(L:et A cs S0)(o:A.o 34 0=U (.list yi))(d:A.o 36 0=U (.dN D5)):WI 0 A cs M9 S0 yi D5:=by
 have s:M9.aC=λ_=>KT:=rfl;refine⟨H,L,GX,λt c e=>?_,Lf _,o,d,K9 _,.nil,λt p e=>?_,λi p e=>?_,λt a b e=>(nomatch e),λt e=>?_,?_,Lf _,λt m=>?_,rfl,rfl,rfl,by decide+kernel,rfl,λ_=>rfl,λ_=>rfl⟩;·replace e:=(rfl:M9.a7=λ_=>KT)▸e;exact al e
 ·replace e:=s▸e;exact al e
 ·replace e:=(rfl:M9.ce=[])▸e;exact al e
 ·replace e:=s▸e;exact aK e
 ·refine Z zK ?_;decide
 ·replace m:=(rfl:M9.a4=[])▸m;exact(nomatch m)
noncomputable def yF(A:AH):AH:=(((((A.new 45 0 A.nn (.list [])).new 44 0 (A.nn+1) (.list [.ref ⟨45,0,A.nn⟩])).new 46 0 (A.nn+1+1) (.dI fw λ_=>KT)).new 47 0 (A.nn+1+1+1) (.dI fw λ_=>KT)).new 48 0 (A.nn+1+1+1+1) (.dP gD λ_=>KT)).new 42 0 (A.nn+1+1+1+1+1)
 (.dS [("some",.fl (ae ar)),("inner",.ref (A.R 41 0)),("levels",.ref ⟨44,0,A.nn+1⟩),("watched",.ref ⟨46,0,A.nn+1+1⟩),("told",.ref ⟨47,0,A.nn+1+1+1⟩),("equal",.ref ⟨48,0,A.nn+1+1+1+1⟩)])
theorem uk:Fr pH A (yF A):=.trans (.trans (.trans (.trans (.trans (.new rfl) (.new rfl)) (.new rfl)) (.new rfl)) (.new rfl)) (.new rfl)
theorem B1(L:cs.length<=50)(of:A.o 40 0=U (.dS [("cells",.fl (ae cs)),("spot",.int (1:Nat))]))(o:A.o 41 0=U (.dI ar λt=>(ai.M.arg t).map V.int)):et (yF A) cs S0:=by
 refine⟨L,of,o,rfl,rfl,λi l e=>?_,rfl,rfl,rfl⟩;induction i using MT with
 |zero=>(replace e:=KP e;subst e);rfl
 |succ i=>exact(nomatch i)<;>cases e
theorem DP(h:LS k 42=true):(yF A).R k 0=A.R k 0:=by simp only[Nc] at h;have e:∀{B:AH} {j n:Nat} {x:AO},k≠j->(B.new j 0 n x).R k 0=B.R k 0:=λ{B j n x} c=>congrArg (cq.mk k 0) (if_neg λq=>c q.1);unfold yF;exact Z (e (by omega)) (Z (e (by omega)) (Z (e (by omega)) (Z (e (by omega)) (Z (e (by omega)) (Z (e (by omega)) rfl)))))
theorem H4{P:PV}{v:Nat}{x:V}(R:AR h A)(H:aG A (λ_=>[]) M0)(L:cs.length<=50)(of:A.o 40 0=U (.dS [("cells",.fl (ae cs)),("spot",.int (1:Nat))]))(o:A.o 41 0=U (.dI ar λt=>(ai.M.arg t).map V.int))(d:A.o 34 0=U (.list yi))(g:A.o 36 0=U (.dN D5))(i:v<=9)(q:∀h,P (.bool true) h):
  St.bh G1 (lw (n+9)) (lJ.body.drop 4) [U x,U (.ref (A.R 40 0)),U Bk,U (.int v),U (.fl (ae ar)),U (.ref (A.R 41 0)),U Me,KT,KT,KT,KT,KT,KT,KT,KT,KT,KT] (Fl.cU P) h:=by
 refine aY (zU rfl (av (aB rfl (av (aB rfl (av (yM (av (yM (ax (gc 45 0 (xs:=[]) R (Lf _) λK j=>ax (gc 44 0 (xs:=[.ref ⟨45,0,A.nn⟩]) j (by refine(?_ :1<=aN);decide) λM m=>?_))))))))))));refine av (d0 (mS 46 0 fw m (by decide) λN p=>av (d0 (mS 47 0 fw p (by decide) λQ u=>av (d0 (v5 48 0 gD u (by decide) λX z=>ax (ww 42 0 (l:=["some","inner","levels","watched","told","equal"]) z (λ_ _=>rfl) rfl (by decide) rfl (by decide) λB a=>⟨aX rfl,?_⟩)))))));have a:AR B (yF A):=a;refine Z (((DP rfl).symm:A.R 40 0=(yF A).R 40 0)) (Z (((DP rfl).symm:A.R 41 0=(yF A).R 41 0)) (FD (n:=n+4) a (H.Jw uk:aG (yF A) (λ_=>[]) M0) λh7 c y C D f=>?_));have r:∀k,GG k=true->c.R k 0=(yF A).R k 0:=λk e=>congrArg (cq.mk k 0) (f k 0 e).2;have W:=Kl D ((B1 L of o:et (yF A) cs S0).fo f) ((f 34 0 rfl).1.trans ((uk 34 0 rfl).1.trans d:(yF A).o 34 0=U (.list yi))) ((f 36 0 rfl).1.trans ((uk 36 0 rfl).1.trans g:(yF A).o 36 0=U (.dN D5)));refine hR (r 40 rfl) (hR (r 41 rfl) (e1 (w_call (av (aB rfl (av (aB (v:=.ref (c.R 42 0)) (congrArg (λx=>U (V.ref x)) (r 42 rfl).symm) (av (aB rfl (av (aB rfl (ax (CU (n:=n+2) C W rfl λF b M8 S8 T J' G w s S=>ay w.start λI J=>?_)))))))))))));have E:(⟨42,0,A.nn+1+1+1+1+1⟩:cq)=b.R 42 0:=by refine Z S.c (Z (r 42 rfl) ?_);rfl
 exact hR S.a (hR S.b ((Z E (Js G I J (by have:=w.nl;exact bM (kS _) 0x7a313733 rfl this) (bM (kS _) 0x7a313773 rfl (K2 s)) i q)):St.bh G1 (lw (n+9)) (lJ.body.drop 7) [U x,U (.ref (b.R 40 0)),U Bk,U (.int v),U (.fl (ae ar)),U (.ref (b.R 41 0)),U Me,U (.ref ⟨42,0,A.nn+1+1+1+1+1⟩),y,KT,KT,KT,KT,KT,KT,KT,KT] _ F))
end
theorem HW(N:List Int)(_:N.length<=63):∃n,n<=60/\a5 (G0 vF) (Ga bt) n "law" [.fl (ae N)] (λv _=>v=.bool true) Hp.jH:=by exact⟨10,by decide,ab H5 ⟨rfl,Gs (n:=0) λh A v R H of o a b V=>H4 (n:=0) R H (Rd _ _) of o a b V λ_=>rfl⟩⟩
end ai.L1
end Internal
theorem PySem.Challenge.cw_no0014_01_holds : PySem.Challenge.rw_no0014_01.Holds :=
  Internal.ai.L1.J6 Internal.ai.L1.HW
