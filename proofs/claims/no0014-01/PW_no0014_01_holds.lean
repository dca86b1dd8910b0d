import PyProof.Rows.All
import Wide.All
import OpenK.AllK
import Wide.FinOn
import Lean
import PySem.Challenge.RW_no0014_01
set_option Elab.async false
set_option linter.all false
set_option backward.match.sparseCases false
set_option bootstrap.genMatcherCode false
set_option tactic.hygienic false
set_option genInjectivity false
set_option genSizeOf false
namespace Internal
open Option renaming some->U,none->KF,isSome_iff_exists->LK,isNone_iff_eq_none->Ni,map_some->Nr,map->Nu,map_eq_some_iff->Oo,isNone_some->QS,isSome->RU
open PySem renaming wpAny_bind->KA,Value->KI,wpAny_pure->KL,Expr->KN,Str->KR,wpAny->KV,wpAny_mono->K0,Shared->K2,Obj->K4,model->K5,Addr->Lb,sizeLine->LG,Stmt->LH,wpAny_holding->LJ,wpAny_field->L3,strKind->L5,Program->L6,wpAny_seqItems->Ma,NameKind->Mc,mainGlobals->Mg,starEach->Mi,intKind->Mq,DictEntry->Mt,wpAny_setField_rec->Mx,wpAny_call_entry->My,wpAny_callSpecial?_slot->MB,wpAny_standAt->ML,assignEach->MO,World->MP,stack->MT,wpAny_newObj_type->MV,wpAny_typeNameOfWhole_keyiter->M4,wpAny_updateSeq->Nb,assignInOrder->Nc,rawInt->Ng,IsPair->Nh,wpAny_Call_ofName->Nj,intKind_is->Nq,eval->Nz,Around->NA,wpAny_typeNameOf_keyiter->ND,swappedStores->NE,sysModules->NJ,backTo->NK,treeTable->NN,sizeLine_eq->NO,compareOp->NP,valueAt->NW,callEnvC->NX,tupleKind->N2,cLine->N6,FuncData->N7,pyNext->Oc,codeAny_mono->Og,wpAny_rule->Ok,ZipApart->Ol,pyHash->Ou,wpAny_letGo->Ov,wpAny_dictEntries->Ow,slot_list_getitem->Ox,getMethod_builtin->Oy,wpAny_onRaise->OB,swapsWithSole->OC,plainId_quiet->OD,wpAny_isInstance->OJ,updateSeq->OK,wpAny_typeOf->OV,wpAny_Name->OW,strKind_is->OX,codeAny->OY,builtinsNs->OZ,wpAny_specialOf->O4,wpAny_ite_split->O5,codeAny_builtin->O6,Scope->O7,wpAny_updateSeq_pair->Pf,wpAny_setField->Pg,firstArgMember->Ph,atKey->Pj,Env->Pl,eqIsQuiet->Pq,wpAny_attempt->PA,field->PB,wpAny_pyIter_tuple->PF,wpAny_Constant_int->PG,slot_dict_getitem->PR,call_meetsIn->PT,callWith->PU,bindName->PW,Pos->P9,newList->Qb,Thread->Qd,loadIfAlive->Qk,Model->Ql,wpAny_execs_nil->Qp,wpAny_dictEpoch->Qq,wpAny_newTuple->QB,isTrue->QC,assign->QD,wpAny_release->QX,wpAny_getItem_list_slice->QY,attributeBase->QZ,wpAny_list_append_plain->Q4,getMethod->Q5,cellsFrom->Q6,wpAny_pyNext_list_item->Re,relabel->Rf,notedBy->Rg,wpAny_storeName_local->Rr,wpAny_pyNext_list_end->Rs,wpAny_pyIter_listiter->Rt,wpAny_notOrdered_dict->Ru,wpAny_isOneOf_keyiter->Rv,builtinLookup_eq_fast->Rw,wpAny_pyIter_keyiter->RK,wpAny_of_eq->RL,wpAny_loadName_local->RM,compEnvC->RN,bindArgs->RO,ItemsAre->RP,HeapKind->RQ,GenState->RR,wpAny_setItem_pairs->R4,wpAny_loadName_free->R5,wpAny_loadName_cell->R6,wpAny_isTrue_BoolOp->R7,wpAny_setItem_heap->Sd,wpAny_pyHash_tuple->Se,wpAny_delItem_slot->Sf,wpAny_call->Sg,wpAny_Constant_str->Sh,truthy->Si,PyData->Sl,KeyKind->Sm,Flow->Sn,wpAny_truthy_bool->Sz,wpAny_pyIter_list->SA,wpAny_assign_Name->SB,foldedSetIterable->SC,bindC->SD,OsState->SF,wpAny_getItem_of->SQ,assignAll->SR,Step->SU,Sem->SV,Arguments->S1,wpAny_Dict_walk->S9,typeLookup_type->Ta,size_of_entries->Tc,letOwnedTupleGo->Td,importedModules->Te,arm_exec_Assign->Tf,Fin->Ti,wpAny_fieldsOf->To,recursionLimit->Tp,pyIter->Tq,newExc->Tr,methodCallForm->Ts,isSubtype_stop->Tt,denote->Tu,callType_codes->Tv,bindL->Tw,binaryOp->Tx,Reads->TB,Data->TD,wpAny_newList->TG,wpAny_handled->TH,wpAny_UnaryOp->TJ,methodCallPos->TK,evalPart_some->TL,evalPart_none->TM,code_list_new->TN,behindInMarks->TP
open Nat renaming le_trans->KB,le_of_eq->KQ,lt_of_le_of_lt->KU,le_refl->KX,zero_le->K3,lt_of_lt_of_le->K6,succ_le_succ->Ld,le_add_right->Lf,beq->Lk,not_succ_le_zero->Ll,le_succ_of_le->Lp,le_of_lt->Lq,le_succ->Lv,blt->LA,add_le_add_left->LO,lt_succ_self->LU,eq_of_beq_eq_true->L0,le_antisymm->L2,le_of_ble_eq_true->Md,lt_trans->Ml,casesOn->MG,mod_two_eq_zero_or_one->MK,succ_pos->MR,ne_of_lt->MS,sub_self->MY,blt_eq->MZ,le_add_left->M3,lt_irrefl->M5,lt_succ_of_lt->Na,zero_add->No,mul_le_mul_left->Nt,lt_add_of_pos_right->NB,ne_of_gt->NM,succ_le_of_lt->Oj,ne_of_beq_eq_false->OE,lt_or_ge->OF,min_eq_left->OH,succ->O2,add_le_add->O3,add_lt_add_left->O',not_lt->Pm,lt_succ_of_le->Pz,succ_lt_succ->PL,min_le_left->P5,add_sub_cancel_left->Qw,rec->QH,eq_or_lt_of_le->Rk,add_sub_cancel->Rl,le_of_lt_succ->RB,succ_ne_zero->RV,min_le_right->RW,le_of_not_lt->RX,add_assoc->SN,ble->S3
open Option.some renaming inj->KC,injEq->ON
open PySem.Str renaming ofString->KD,ofString_eq_toList->NQ
open List renaming length_map->KE,mem_singleton->KG,length_append->KH,mem_cons_self->KJ,mem_cons->KM,mem_cons_of_mem->KP,mem_append->KW,mem_append_left->KZ,mem_append_right->K1,append_assoc->K7,append_nil->K8,nodup_cons->K9,map_append->La,mem_singleton_self->Lc,filterMap_cons->Lg,getElem?_append_right->Lj,map_cons->Ln,mem_map->Lo,length_cons->Lr,casesOn->Lx,getElem?_eq_some_iff->LC,length_range->LN,range->LP,lookup_cons->LR,all_eq_true->LS,getElem?_eq_getElem->LV,contains_iff_mem->LZ,nodup_append->L7,pairwise_cons->L9,getElem?_append_left->Mb,length_set->Mh,nodup_nil->Mk,map_congr_left->Mm,drop_eq_getElem_cons->Ms,length_take->Mv,getElem?_map->Mz,mem_filter->MA,drop_of_length_le->MD,not_mem_nil->MH,filter_cons->MI,length_filterMap_le->MU,forIn_cons->M2,length_filter_le->M6,foldl_append->M7,mem_of_getElem?->Nf,getElem_mem->Nl,map_take->Nv,map->Nw,length_nil->Nx,mem_filterMap->Ny,take_of_length_le->NF,replicate->NG,filterMap->NH,length_replicate->NR,getElem?_eq_none->NU,take_append_of_le_length->N0,flatten_append->N4,length->Oh,zipIdx_cons->Oq,isEmpty_iff->Os,getElem?_cons_succ->Ot,getElem?_set_self->OA,nil_append->OG,take_left->OS,getElem?_set_ne->OT,forIn_nil->OU,set_comm->Pa,filterMap_nil->Pe,toArray->Pt,take_succ_eq_append_getElem->Pu,reverse_cons->Pv,mem_of_find?_eq_some->Qh,getElem?_zip_eq_some->Qi,getElem?_eq_none_iff->Qj,getLast?_cons_cons->Qs,getElem?_replicate->Qt,eraseIdx_cons_succ->Qu,map_map->Qx,take_append_drop->QI,set_getElem_self->QJ,eq_nil_or_concat->QK,dropLast_eq_take->QL,concat_eq_append->QM,replicate_succ'->QT,mem_of_mem_take->QU,drop_eq_nil_iff->QV,contains_eq_mem->QW,map_eq_nil_iff->Q1,length_take_le->Q2,zip_cons_cons->Q9,getElem_range->Q',getElem?_take->Ra,filterMap_map->Rb,size_toArray->Rm,mapM_toArray->Rn,any_eq_false->Ro,mem_flatten->RC,getElem_map->RD,ext_getElem->RE,cons_ne_nil->RF,append_cons->RG,any_eq_true->RH,zipIdx_nil->RY,of_mem_zip->RZ,length_zip->R1,find?_cons->R2,mem_range->Sa,drop_drop->Sb,take_nil->Su,any_cons->Sv,set_set->SO,lookup->S4,rec->TV
open Or renaming elim->KS
open PySem.Heap renaming get?_push_of_some->KT,get?_push_size->KY,lt_size->Lh,ExtBut->LL,get?_update_self->LY,get?_update_other->L',SameBut->MC,size_push->MJ,size_update->Nk,get?_push_ne->Ri,get?->Ry,IsTuple->SH
open Array renaming length_toList->Le,getElem?_eq_getElem->Mp,getElem?_eq_none_iff->N',forIn_toList->Oa,eraseIdxIfInBounds->Oi,mem_toList_iff->OO,toList_push->Pp,size_push->PM,getElem?_eq_some_iff->P7,toList_eraseIdx->Qz,getElem?_toList->QA,toList_inj->Rq,toList->Sy,getD->S8
open PySem.Builtin.SmallTypes renaming nextOf->Li,ownedTupleIsFree->Lm,ownedTupleHandOut->Ob
open Bool renaming and_eq_true->Lu,false_ne_true->LW,false_eq_true->LX,or_eq_true->Mo,noConfusion->PE,eq_iff_iff->PQ,or_false->Sw,not_true->Sx
open Int renaming natCast_nonneg->Lw,toNat_natCast->Mn,le_trans->Mw,ofNat_le->MF,ofNat_lt->M1,ne_of_gt->N9,emod_lt_of_pos->Oe,emod_nonneg->OI,eq_ofNat_of_zero_le->Qy,le_of_lt->QN,toNat_of_nonneg->Rc,not_lt->Rp,natCast_pos->Sc,lt_irrefl->SP,neg_neg->Tn,toNat->TW
open List.cons renaming inj->Ly,injEq->Pn
open Prod.mk renaming inj->Lz
open PySem.Builtin.List renaming listExtendWith->LQ,listLengthHint->MW,listSameRef->M',listItems->Np,listUpdate->Py,listTooLong->Tj
open PySem.Value renaming none->L4,ref->Mu,type->MQ,isInt_shape->Pk,int->Pw,isStrOf_shape->QO
open ForInStep renaming yield->L8
open PySem.F renaming slot_dict_keyiterator_next->Mf,plain_extend_loop->MM,slot_dict_delitem->Nd,slot_tuple_iterator_next->Nn,args_dict_keyiterator_next_1->OL,slot_zip_next->OP,slot_dict_get->OQ,entry_dict_keyiterator_next->OR,args_dict_delitem_2->PC,plainAttrs_list->PH,entry_dict_delitem->PJ,entry_dict_get->P0,plain_list_iadd->P',slot_dict_iter->Qe,args_tuple_iterator_next_1->Qf,entry_tuple_iterator_next->Qn,args_list_init_2->QF,typeCall_list_1->QP,entry_list_init->QQ,entry_extend_loop->Rz,called_list->RA,slot_list_extend->RS,args_zip_next_1->R9,args_dict_get_2->R',entry_zip_next->So,slot_list_pop->SK
open PySem.Heap.SameBut renaming update->Mj
open PySem.Challenge renaming rw_no0014_01->Mr,pw_no0014_01->Sp
open PyProof.Rows renaming seqObj->ME,assignInOrder_cons->NL,tail_any->Om,callWith_type->Pd,pairsOf->Ps,tuples'->P1,spliced_more->P3,IntsAre->P4,listUpdate_at->Q0,spliced_none->Rj,seqEpoch_at->RT,sortedHeap->Sq,slot_tuple_getitem->Sr,Subscript_->Ss,assignInOrder_nil->SM,zipApart_new->Tm,dictOfH_noDict->TF,subscriptTail->TS,getItem_tuple->TU
open PySem.NameKind renaming free->MX,cell->PO
open PySem.PyData renaming eqv->M8,depthAll->NZ,canLayAll0->Od,eqvAll->Of,int->On,depth->Pb,canLay0->PN,list->Qv,keyHash->Rx,strOk->R8
open PySem.Around renaming under_plainId->NV,in1_units->Q8
open PySem.W renaming instObj->NY,emptyDict->N3,Frag->O0,findIn->Qc,dictOf->QE,topRun->Rh,keepIn->Sj,putL->Tz,kas_item->TA
open List.Perm renaming refl->N1,swap->Q3
open Nat.Internal.Linear renaming Context->N5,Expr->P6
open PySem.Calls renaming Name_function_global->N8,evalArgs_plain->OM,loadGlobal_global->Qo,callWith_builtin->Qr
open PySem.Builtin.Dict_items renaming ownsTuple->Oz
open PySem.Flow renaming next->O1
open Nat.succ renaming inj->O8
open PySem.Heap.DictOf renaming new->O9
open PySem.Builtin.Tuple renaming tupleHashOf->Pc,tupleItemsOf->SX
open PySem.Builtin.Range renaming rangeSize->Pr,small->SY,rangeFitsLong->SZ
open PySem.Builtin renaming divisionGoesByPylong->Px
open Classical renaming byContradiction->PD
open PySem.Builtin.Dict renaming showsAll->PK,takeOut->PP,dictSlotNone->Tk,dictSlotArgs->Tl
open PySem.W.WData renaming bool->PX
open PySem.W.Fast renaming tw14364793385576792824->PY,te14364793385576792824->PZ,tw1435165496053646825->P8
open List.Pairwise renaming nil->Qa,map->S5
open Ne renaming symm->Qg
open PySem.Heap.DictOfH renaming new->Qm
open PySem.DictEntry renaming refKey->QG
open PyProof.Rows.SortSt renaming mk'->QR
open PySem.Obj renaming cls->Q7
open Eq renaming trans->Rd
open String renaming ofList->RJ
open And renaming intro->R3
open PySem.Shared renaming heap->Sk
open PySem.Heap.IsSliceOf renaming new->SJ
open PySem.Code renaming builtin->SL
open PySem.IsiPair renaming list_list->SW
open PUnit renaming unit->S2
open Iff renaming rfl->S6,of_eq->TX
open False renaming elim->S7
open PySem.Heap.IsTuple renaming push->Th
open PySem.IsL renaming update->TC
open PySem.AutoIntOps renaming mod_1->TQ,floordiv_1->TR
open Array.Perm renaming refl->TY
namespace ai
@[elab_as_elim] theorem Z{c:Sort u}{a b:c}{P:c->Prop}(e:a=b)(h:P b):P a:=e▸h
@[elab_as_elim] theorem hR{c:Sort u}{a b:c}{P:c->Prop}(e:b=a)(h:P b):P a:=e▸h
@[elab_as_elim] theorem iR{a b:Prop}{P:Prop->Prop}(e:a↔b)(h:P b):P a:=propext e▸h
@[elab_as_elim] theorem jR{a b:Prop}{P:Prop->Prop}(e:b↔a)(h:P b):P a:=propext e▸h
theorem EC{p p1 P:Prop}(h:p)(H:p1)(a:P):p/\p1/\P:=⟨h,H,a⟩
theorem uP{p p1 P a:Prop}(h:p)(H:p1)(b:P)(c:a):p/\p1/\P/\a:=⟨h,H,b,c⟩
theorem FR{p p1 P a p4:Prop}(h:p)(H:p1)(b:P)(c:a)(d:p4):p/\p1/\P/\a/\p4:=⟨h,H,b,c,d⟩
theorem Jm{p p1 P a p4 b:Prop}(h:p)(H:p1)(c:P)(d:a)(e:p4)(f:b):p/\p1/\P/\a/\p4/\b:=⟨h,H,c,d,e,f⟩
section
variable {p0 p1 p2 p3 p4 p5 p6 p7 g:Prop}
theorem ay(h:p0/\p1)(k:p0->p1->g):g:=k h.1 h.2
theorem cH(h:p0/\p1/\p2)(k:p0->p1->p2->g):g:=ay h.2 (k h.1)
theorem fj(h:p0/\p1/\p2/\p3)(k:p0->p1->p2->p3->g):g:=cH h.2 (k h.1)
theorem pc(h:p0/\p1/\p2/\p3/\p4)(k:p0->p1->p2->p3->p4->g):g:=fj h.2 (k h.1)
theorem G8(h:p0/\p1/\p2/\p3/\p4/\p5)(k:p0->p1->p2->p3->p4->p5->g):g:=pc h.2 (k h.1)
theorem uD(h:p0/\p1/\p2/\p3/\p4/\p5/\p6)(k:p0->p1->p2->p3->p4->p5->p6->g):g:=G8 h.2 (k h.1)
theorem xb(h:p0/\p1/\p2/\p3/\p4/\p5/\p6/\p7)(k:p0->p1->p2->p3->p4->p5->p6->p7->g):g:=uD h.2 (k h.1)
end
section
variable {A0:Type} {p0 p1 p2 p3 p4 p5:A0->Prop} {g:Prop}
theorem cV(h:∃x,p0 x)(k:∀x,p0 x->g):g:=h.elim k
theorem aD(h:∃X,p0 X/\p1 X)(k:∀X,p0 X->p1 X->g):g:=h.elim λx h=>ay h (k x)
theorem gc(h:∃X,p0 X/\p1 X/\p2 X)(k:∀X,p0 X->p1 X->p2 X->g):g:=h.elim λx h=>cH h (k x)
theorem lf(h:∃X,p0 X/\p1 X/\p2 X/\p3 X)(k:∀X,p0 X->p1 X->p2 X->p3 X->g):g:=h.elim λx h=>fj h (k x)
theorem ii(h:∃X,p0 X/\p1 X/\p2 X/\p3 X/\p4 X)(k:∀X,p0 X->p1 X->p2 X->p3 X->p4 X->g):g:=h.elim λx h=>pc h (k x)
theorem Gx(h:∃X,p0 X/\p1 X/\p2 X/\p3 X/\p4 X/\p5 X)(k:∀X,p0 X->p1 X->p2 X->p3 X->p4 X->p5 X->g):g:=h.elim λx h=>G8 h (k x)
end
section
variable {A0 A1:Type} {p0 p1 p2 p3 p4 p5 p6 p7:A0->A1->Prop} {g:Prop}
theorem g9(h:∃X a,p0 X a)(k:∀X a,p0 X a->g):g:=h.elim λx h=>cV h (k x)
theorem eH(h:∃X a,p0 X a/\p1 X a)(k:∀X a,p0 X a->p1 X a->g):g:=h.elim λx h=>aD h (k x)
theorem cR(h:∃X a,p0 X a/\p1 X a/\p2 X a)(k:∀X a,p0 X a->p1 X a->p2 X a->g):g:=h.elim λx h=>gc h (k x)
theorem Bm(h:∃X a,p0 X a/\p1 X a/\p2 X a/\p3 X a)(k:∀X a,p0 X a->p1 X a->p2 X a->p3 X a->g):g:=h.elim λx h=>lf h (k x)
theorem GB(h:∃X a,p0 X a/\p1 X a/\p2 X a/\p3 X a/\p4 X a/\p5 X a)(k:∀X a,p0 X a->p1 X a->p2 X a->p3 X a->p4 X a->p5 X a->g):g:=h.elim λx h=>Gx h (k x)
theorem Gm(h:∃X a,p0 X a/\p1 X a/\p2 X a/\p3 X a/\p4 X a/\p5 X a/\p6 X a/\p7 X a)(k:∀X a,p0 X a->p1 X a->p2 X a->p3 X a->p4 X a->p5 X a->p6 X a->p7 X a->g):g:=h.elim λx h=>h.elim λy h=>xb h (k x y)
end
section
variable {A0 A1 A2:Type} {p0 p1 p2 p3 p4 p5:A0->A1->A2->Prop} {g:Prop}
theorem I'(h:∃X a b,p0 X a b)(k:∀X a b,p0 X a b->g):g:=h.elim λx h=>g9 h (k x)
theorem sp(h:∃X a b,p0 X a b/\p1 X a b)(k:∀X a b,p0 X a b->p1 X a b->g):g:=h.elim λx h=>eH h (k x)
theorem rv(h:∃X a b,p0 X a b/\p1 X a b/\p2 X a b)(k:∀X a b,p0 X a b->p1 X a b->p2 X a b->g):g:=h.elim λx h=>cR h (k x)
theorem rX(h:∃X a b,p0 X a b/\p1 X a b/\p2 X a b/\p3 X a b)(k:∀X a b,p0 X a b->p1 X a b->p2 X a b->p3 X a b->g):g:=h.elim λx h=>Bm h (k x)
theorem CM(h:∃X a b,p0 X a b/\p1 X a b/\p2 X a b/\p3 X a b/\p4 X a b)(k:∀X a b,p0 X a b->p1 X a b->p2 X a b->p3 X a b->p4 X a b->g):g:=h.elim λx h=>h.elim λy h=>ii h (k x y)
theorem uJ(h:∃X a b,p0 X a b/\p1 X a b/\p2 X a b/\p3 X a b/\p4 X a b/\p5 X a b)(k:∀X a b,p0 X a b->p1 X a b->p2 X a b->p3 X a b->p4 X a b->p5 X a b->g):g:=h.elim λx h=>GB h (k x)
end
section
variable {A0 A1 A2 A3:Type} {p0 p1 p2 p3 p4 p5:A0->A1->A2->A3->Prop} {g:Prop}
theorem I2(h:∃X a b x3,p0 X a b x3)(k:∀X a b x3,p0 X a b x3->g):g:=h.elim λx h=>I' h (k x)
theorem qV(h:∃X a b x3,p0 X a b x3/\p1 X a b x3)(k:∀X a b x3,p0 X a b x3->p1 X a b x3->g):g:=h.elim λx h=>sp h (k x)
theorem oT(h:∃X a b x3,p0 X a b x3/\p1 X a b x3/\p2 X a b x3)(k:∀X a b x3,p0 X a b x3->p1 X a b x3->p2 X a b x3->g):g:=h.elim λx h=>rv h (k x)
theorem tP(h:∃X a b x3,p0 X a b x3/\p1 X a b x3/\p2 X a b x3/\p3 X a b x3)(k:∀X a b x3,p0 X a b x3->p1 X a b x3->p2 X a b x3->p3 X a b x3->g):g:=h.elim λx h=>rX h (k x)
theorem B2(h:∃X a b x3,p0 X a b x3/\p1 X a b x3/\p2 X a b x3/\p3 X a b x3/\p4 X a b x3)(k:∀X a b x3,p0 X a b x3->p1 X a b x3->p2 X a b x3->p3 X a b x3->p4 X a b x3->g):g:=h.elim λx h=>CM h (k x)
theorem JW(h:∃X a b x3,p0 X a b x3/\p1 X a b x3/\p2 X a b x3/\p3 X a b x3/\p4 X a b x3/\p5 X a b x3)(k:∀X a b x3,p0 X a b x3->p1 X a b x3->p2 X a b x3->p3 X a b x3->p4 X a b x3->p5 X a b x3->g):g:=h.elim λx h=>uJ h (k x)
end
section
variable {A0 A1 A2 A3 A4:Type} {p0 p1 p2 p3 p4:A0->A1->A2->A3->A4->Prop} {g:Prop}
theorem IH(h:∃X a b x3 c,p0 X a b x3 c)(k:∀X a b x3 c,p0 X a b x3 c->g):g:=h.elim λx h=>I2 h (k x)
theorem IM(h:∃X a b x3 c,p0 X a b x3 c/\p1 X a b x3 c/\p2 X a b x3 c/\p3 X a b x3 c)(k:∀X a b x3 c,p0 X a b x3 c->p1 X a b x3 c->p2 X a b x3 c->p3 X a b x3 c->g):g:=h.elim λx h=>tP h (k x)
theorem El(h:∃X a b x3 c,p0 X a b x3 c/\p1 X a b x3 c/\p2 X a b x3 c/\p3 X a b x3 c/\p4 X a b x3 c)(k:∀X a b x3 c,p0 X a b x3 c->p1 X a b x3 c->p2 X a b x3 c->p3 X a b x3 c->p4 X a b x3 c->g):g:=h.elim λx h=>B2 h (k x)
end
section
variable {A0 A1 A2 A3 A4 A5:Type} {p0 p1 p2 p3:A0->A1->A2->A3->A4->A5->Prop} {g:Prop}
theorem IW(h:∃X a b x3 c d,p0 X a b x3 c d)(k:∀X a b x3 c d,p0 X a b x3 c d->g):g:=h.elim λx h=>IH h (k x)
theorem x4(h:∃X a b x3 c d,p0 X a b x3 c d/\p1 X a b x3 c d/\p2 X a b x3 c d/\p3 X a b x3 c d)(k:∀X a b x3 c d,p0 X a b x3 c d->p1 X a b x3 c d->p2 X a b x3 c d->p3 X a b x3 c d->g):g:=h.elim λx h=>IM h (k x)
end
open Nat.Internal.Linear (Expr ExprCnstr Context)
@[reducible] def Iw(x:N5)(P:Prop):List (Nat×P6×P6)->Prop
 |[]=>P
 |(_,a,b)::r=>a.denote x<=b.denote x->Iw x P r
noncomputable def I9(s t:P6):List (Nat×P6×P6)->ExprCnstr
 |[]=>⟨false,s,t⟩
 |(k,a,b)::r=>I9 (.add s (.mulL k b)) (.add t (.mulL k a)) r
@[reducible] noncomputable def Jy:List P6->List (Nat×P6×P6)
 |.num k::a::b::r=>(k,a,b)::Jy r
 |_=>[]
@[reducible] def JD(x:N5):List P6->Prop
 |a::b::r=>Iw x (a.denote x<=b.denote x) (Jy r)
 |_=>True
noncomputable def JO:List P6->Bool
 |a::b::r=>(I9 a b (Jy r)).toNormPoly.isValid
 |_=>true
@[reducible] noncomputable def C1:Nat->Nat->List P6->List P6
 |0,_,s=>s
 |f+1,n,s=>match n with
  |0=>s
  |m+1=>match(m+1) %16 with
   |1=>(match s with |b::a::s=>C1 f ((m+1)/16) (.add a b::s) |s=>s)
   |2=>(match s with |a::.num k::s=>C1 f ((m+1)/16) (.mulL k a::s) |s=>s)
   |3=>C1 f ((m+1)/256) (.num ((m+1)/16 %16)::s)
   |4=>C1 f ((m+1)/4096) (.num ((m+1)/16 %256)::s)
   |5=>C1 f ((m+1)/16777216) (.num ((m+1)/16 %1048576)::s)
   |6=>C1 f ((m+1)/68719476736) (.num ((m+1)/16 %4294967296)::s)
   |d=>C1 f ((m+1)/16) (.var (d-7)::s)
theorem Fh{P:Prop}(l:List (Nat×P6×P6)):∀{s t:P6},(s.denote x<=t.denote x->P)->(I9 s t l).denote x->Iw x P l:=by
 induction l with
 |nil=>exact λq h=>q h
 |cons e r i=>exact λq h c=>i (λg=>q (Nat.le_of_add_le_add_right (KB g (LO (Nt e.1 c) _)))) h
theorem Ks:∀{l:List P6},JO l=true->JD x l
 |[],_=>trivial
 |[_],_=>trivial
 |a::b::r,ok=>Fh (s:=a) (t:=b) _ id (of_eq_true (ExprCnstr.eq_true_of_isValid x _ ok))
theorem bM(x:N5)(n:Nat)(ok:JO (C1 99 n [])=true):JD x (C1 99 n []):=Ks ok
noncomputable abbrev kT(a:Nat):N5:=.leaf a
noncomputable abbrev gF(a b:Nat):N5:=.branch 1 (.leaf a) (.leaf b)
noncomputable abbrev ip(a b c:Nat):N5:=.branch 1 (.leaf a) (.branch 2 (.leaf b) (.leaf c))
noncomputable abbrev lP(a b c d:Nat):N5:=.branch 1 (.leaf a) (.branch 2 (.leaf b) (.branch 3 (.leaf c) (.leaf d)))
noncomputable abbrev IA(a b c d e:Nat):N5:=.branch 1 (.leaf a) (.branch 2 (.leaf b) (.branch 3 (.leaf c) (.branch 4 (.leaf d) (.leaf e))))
noncomputable abbrev Ki(a b c d e f:Nat):N5:=.branch 1 (.leaf a) (.branch 2 (.leaf b) (.branch 3 (.leaf c) (.branch 4 (.leaf d) (.branch 5 (.leaf e) (.leaf f)))))
noncomputable abbrev Kx(a b c d e f g:Nat):N5:=.branch 1 (.leaf a) (.branch 2 (.leaf b) (.branch 3 (.leaf c) (.branch 4 (.leaf d) (.branch 5 (.leaf e) (.branch 6 (.leaf f) (.leaf g))))))
set_option genInjectivity true in
structure cq where
 k:Nat
 t:Int
 n:Nat
deriving DecidableEq
inductive V where
 |none |bool (b:Bool) |int (i:Int) |str (s:String)
 |aA (l:List V) |fl (l:List V) |eQ (C:String) (r:cq) |ref (r:cq) |yB (n:Int)
set_option genInjectivity true in
inductive dX where
 |int (i:Int)
 |gH (l:List Int)
deriving DecidableEq
set_option genInjectivity true in
structure bQ where
 op:String
 args:List Int
 pq:Int
 data:dX
deriving DecidableEq
inductive Obj where
 |list (xs:List V)
 |dI (es:List (Int×V)) |dS (es:List (String×V)) |dP (es:List (List Int×V)) |dN (es:List (bQ×V))
section
variable {K α:Type} [DecidableEq K]
noncomputable def bc:List (K×α)->K->Option α
 |[],_=>.none
 |(k,v)::r,x=>if k=x then U v else bc r x
noncomputable def bA:List (K×α)->K->α->List (K×α)
 |[],x,v=>[(x,v)]
 |(k,w)::r,x,v=>if k=x then(k,v)::r else(k,w)::bA r x v
noncomputable def gf:List (K×α)->K->List (K×α)
 |[],_=>[]
 |(k,w)::r,x=>if k=x then gf r x else(k,w)::gf r x
theorem iU{x:K}:bc ([]:List (K×α)) x=KF:=rfl
theorem ht{k x:K}{v:α}{r:List (K×α)}:bc ((k,v)::r) x=if k=x then U v else bc r x:=rfl
theorem dY{x:K}{v:α}:bA [] x v=[(x,v)]:=rfl
theorem da{k x:K}{v w:α}{r:List (K×α)}:bA ((k,w)::r) x v=if k=x then(k,v)::r else(k,w)::bA r x v:=rfl
theorem iC{x:K}:gf ([]:List (K×α)) x=[]:=rfl
theorem hn{k x:K}{w:α}{r:List (K×α)}:gf ((k,w)::r) x=if k=x then gf r x else(k,w)::gf r x:=rfl
end
structure Hp where
 o:cq->Option Obj
 e4:cq->Nat
 n:Nat
end ai
namespace ai.Hp
noncomputable def set(h:Hp)(r:cq)(x:Obj):Hp:=⟨λq=>if q=r then U x else h.o q,λq=>if q=r then h.e4 r+1 else h.e4 q,h.n⟩
noncomputable def mk'(h:Hp)(k:Nat)(t:Int):cq:=⟨k,t,h.n⟩
noncomputable def new(h:Hp)(k:Nat)(t:Int)(x:Obj):Hp:=⟨λq=>if q=⟨k,t,h.n⟩ then U x else h.o q,λq=>if q=⟨k,t,h.n⟩ then 0 else h.e4 q,h.n+1⟩
noncomputable def drop(h:Hp)(r:cq):Hp:=⟨λq=>if q=r then .none else h.o q,h.e4,h.n⟩
end ai.Hp
namespace ai
def bB{b:Type}(o:Option b)(p:b->Prop):Prop:=match o with |some a=>p a |.none=>False
inductive CV{b:Type}(o:Option b)(p:b->Prop):Prop
 |mk (a:b) (e:o=U a) (q:p a)
theorem aQ{b:Type}{o:Option b}{p:b->Prop}(h:bB o p):CV o p:=by
 cases o with
 |none=>exact h.elim
 |some a=>exact⟨a,rfl,h⟩
theorem Eg{b:Type}{o:Option b}{p:b->Prop}{a:b}(e:o=U a)(h:bB o p):p a:=by rw[e] at h;exact h
theorem ab{b:Type}{o:Option b}{p:b->Prop}{a:b}(e:o=U a)(h:p a):bB o p:=by rw[e];exact h
abbrev aV:=List (Option V)
abbrev PV:=V->Hp->Prop
noncomputable def aN:Nat:=1000000
noncomputable def mc:Int:=1000000000000
inductive Op where |add |sub |mul |IQ |Cy
inductive Cm where |eq |ne |lt |le |gt |ge |dK |eW |is |mW
inductive BI where |cQ |list |tuple |sorted |e6 |range |min |max |int |hg |dict
inductive DK where
 |str (s:String)
 |var (i:Nat)
inductive Ex where
 |aE (c:V)
 |var (i:Nat)
 |c5 (x:String)
 |ao (e:Ex) (f:String)
 |sub (e i:Ex)
 |gj (e h:Ex)
 |EY (e:Ex)
 |aA (es:List Ex)
 |list (es:List Ex)
 |dict (k:List DK) (vs:List Ex)
 |hQ (op:Op) (a b:Ex)
 |bV (op:Cm) (a b:Ex)
 |not (a:Ex)
 |and (es:List Ex)
 |or (es:List Ex)
 |cF (c a b:Ex)
 |call (f:String) (es:List Ex)
 |az (e:Ex) (m:String) (es:List Ex)
 |bi (b:BI) (es:List Ex)
 |new (C:String) (es:List Ex)
 |comp (elt:Ex) (s:Nat) (it:Ex) (cond:Option Ex)
inductive Tg where
 |var (i:Nat)
 |ao (e:Ex) (f:String)
 |sub (e i:Ex)
 |aA (t:List Tg)
inductive St where
 |expr (e:Ex)
 |a8 (t:Tg) (e:Ex)
 |mB (e i:Ex)
 |cF (c:Ex) (a b:List St)
 |while (c:Ex) (b:List St)
 |for (t:Tg) (e:Ex) (b:List St)
 |ret (e:Ex)
 |raise
noncomputable def V.fA:V->Option Int
 |.int i=>U i
 |_=>.none
noncomputable def V.xk:V->Option String
 |.str i=>U i
 |_=>.none
noncomputable def V.rR:V->Option (List V)
 |.aA i=>U i
 |_=>.none
noncomputable def V.tC:V->Option cq
 |.ref i=>U i
 |_=>.none
noncomputable def mf:List V->Option V
 |[v]=>U v
 |_=>.none
noncomputable def x2:List V->Option (V×V)
 |[v,w]=>U (v,w)
 |_=>.none
noncomputable def iH:List V->Option (List Int)
 |[]=>U []
 |v::r=>v.fA.bind λi=>(iH r).map λl=>i::l
noncomputable def ae(l:List Int):List V:=l.map V.int
noncomputable def Obj.io:Obj->Option (List V)
 |.list xs=>U xs
 |_=>.none
noncomputable def cb(h:Hp):V->Option (List V)
 |.fl xs=>U xs
 |.ref r=>(h.o r).bind Obj.io
 |_=>.none
noncomputable def JJ:List Int->List Int->Bool
 |[],_=>true
 |_::_,[]=>false
 |a::x,b::y=>if a=b then JJ x y else decide (a<b)
section
variable {α:Type} (le:α->α->Bool)
noncomputable def j0(a:α):List α->List α
 |[]=>[a]
 |b::r=>if le a b then a::b::r else b::j0 a r
theorem Ac{a:α}:j0 le a []=[a]:=rfl
theorem qj{a b:α}{r:List α}:j0 le a (b::r)=if le a b then a::b::r else b::j0 le a r:=rfl
noncomputable def zw:List α->List α
 |[]=>[]
 |a::r=>j0 le a (zw r)
end
noncomputable def cG(l:List Int):List Int:=zw (λa b=>decide (a<=b)) l
noncomputable def JN(l:List (List Int)):List (List Int):=zw JJ l
noncomputable def de(v:V):Option (List Int):=v.rR.bind iH
noncomputable def Du:List V->Option (V×V×V×V)
 |[a,b,c,d]=>U (a,b,c,d)
 |_=>.none
noncomputable def w2(op:String)(l:List Int)(s:Int):V->Option bQ
 |.int d=>if op="num" then .none else U ⟨op,l,s,.int d⟩
 |.aA d=>(iH d).bind λe=>if op="num" then U ⟨op,l,s,.gH e⟩ else .none
 |_=>.none
noncomputable def gx(v:V):Option bQ:=(v.rR.bind Du).bind λq=>q.1.xk.bind λop=>(de q.2.1).bind λl=>q.2.2.1.fA.bind λs=>w2 op l s q.2.2.2
noncomputable def truthy:V->Option Bool
 |.bool b=>U b
 |_=>.none
noncomputable def V.tJ:V->Bool
 |.none=>true
 |.bool _=>true
 |.int _=>true
 |.str _=>true
 |_=>false
noncomputable def V.hj:Nat->V->Bool
 |0,v=>v.tJ
 |n+1,v=>match v with
  |.aA l=>l.all (V.hj n)
  |.fl l=>l.all (V.hj n)
  |v=>v.tJ
noncomputable def V.isNone:V->Bool
 |.none=>true
 |_=>false
noncomputable def V.Fm(a:Bool):V->Bool
 |.bool b=>a==b
 |.int j=>(if a then 1 else 0)==j
 |_=>false
noncomputable def V.isInt(i:Int):V->Bool
 |.bool b=>i==(if b then 1 else 0)
 |.int j=>i==j
 |_=>false
noncomputable def V.isStr(x:String):V->Bool
 |.str y=>x==y
 |_=>false
mutual
noncomputable def V.same:V->V->Bool
 |.none,b=>b.isNone
 |.bool a,b=>b.Fm a
 |.int i,b=>b.isInt i
 |.str x,b=>b.isStr x
 |.fl xs,b=>(match b with |.fl ys=>V.ka xs ys |_=>false)
 |.aA xs,b=>(match b with |.aA ys=>V.ka xs ys |_=>false)
 |_,_=>false
noncomputable def V.ka:List V->List V->Bool
 |[],b=>b.isEmpty
 |x::xs,b=>(match b with |[]=>false |y::ys=>V.same x y&&V.ka xs ys)
end
noncomputable def res(h:Hp):V->V
 |.ref r=>match(h.o r).bind Obj.io with
  |some xs=>.fl xs
  |.none=>.ref r
 |v=>v
noncomputable def eqv(h:Hp)(a b:V):Option Bool:=if(res h a).hj 8&&(res h b).hj 8 then U ((res h a).same (res h b)) else .none
noncomputable def lp:List V->Option (List String)
 |[]=>U []
 |v::r=>v.xk.bind λi=>(lp r).map λl=>i::l
noncomputable def kt(xs:List V)(k:V):Option Bool:=if xs.all (V.hj 7)&&k.hj 7 then U (xs.any λy=>y.same k) else .none
noncomputable def Obj.dK(k:V):Obj->Option Bool
 |.list xs=>kt xs k
 |.dI es=>k.fA.map λi=>(bc es i).isSome
 |.dS _=>.none
 |.dP es=>(de k).map λi=>(bc es i).isSome
 |.dN _=>.none
noncomputable def dK(h:Hp)(k:V):V->Option Bool
 |.fl xs=>kt xs k
 |.aA xs=>kt xs k
 |.ref r=>(h.o r).bind (Obj.dK k)
 |_=>.none
noncomputable def m3{c:Type}(f:Int->Int->c)(a b:V):Option c:=a.fA.bind λi=>b.fA.map λj=>f i j
noncomputable def V.Kv:V->Option Bool
 |.none=>U true
 |.str _=>.none
 |.yB _=>.none
 |_=>U false
noncomputable def V.B1(a:V):V->Option Bool
 |.none=>a.Kv
 |_=>.none
noncomputable def gI(h:Hp)(c:Cm)(a b:V):Option Bool:=match c with
 |.eq=>eqv h a b
 |.ne=>(eqv h a b).map (!·)
 |.lt=>m3 (λi j=>decide (i<j)) a b
 |.le=>m3 (λi j=>decide (i<=j)) a b
 |.gt=>m3 (λi j=>decide (j<i)) a b
 |.ge=>m3 (λi j=>decide (j<=i)) a b
 |.dK=>dK h a b
 |.eW=>(dK h a b).map (!·)
 |.is=>a.B1 b
 |.mW=>(a.B1 b).map (!·)
noncomputable def jt(xs:List V)(i:Int):Option V:=if 0<=i then xs[i.toNat]?else if 0<=i+xs.length then xs[(i+xs.length).toNat]?else .none
noncomputable def Obj.sub(k:V):Obj->Option V
 |.list xs=>k.fA.bind (jt xs)
 |.dI es=>k.fA.bind (bc es)
 |.dS es=>k.xk.bind (bc es)
 |.dP es=>(de k).bind (bc es)
 |.dN _=>.none
noncomputable def kY(h:Hp)(c k:V):Option V:=match c with
 |.fl xs=>k.fA.bind (jt xs)
 |.aA xs=>k.fA.bind (jt xs)
 |.ref r=>(h.o r).bind (Obj.sub k)
 |_=>.none
@[irreducible] def newList(xs:List V)(Q:PV)(h:Hp):Prop:=xs.length<=aN/\(Q (.fl xs) h\/∃k t,Q (.ref ⟨k,t,h.n⟩) (h.new k t (.list xs)))
theorem gQ(q:newList xs Q h):xs.length<=aN:=by unfold newList at q;exact q.1
def fits(i:Int):Prop:= -mc<=i/\i<=mc
def h6(a b:V)(P:Int->Int->Prop):Prop:=bB a.fA λi=>bB b.fA λj=>P i j
def Jh(a b:V)(Q:PV)(h:Hp):Prop:=match a with
 |.int i=>bB b.fA λj=>fits i/\fits j/\Q (.int (i+j)) h
 |.aA xs=>bB b.rR λys=>xs≠[]/\ys≠[]/\xs.length+ys.length<=aN/\Q (.aA (xs++ys)) h
 |a=>bB (cb h a) λxs=>bB (cb h b) λys=>xs.length<=aN/\ys.length<=aN/\newList (xs++ys) Q h
def ub(op:Op)(a b:V)(Q:PV)(h:Hp):Prop:=match op with
 |.add=>Jh a b Q h
 |.sub=>h6 a b λa b=>fits a/\fits b/\Q (.int (a-b)) h
 |.mul=>h6 a b λa b=>fits a/\fits b/\Q (.int (a*b)) h
 |.IQ=>h6 a b λa b=>0<b/\fits a/\Q (.int (a/b)) h
 |.Cy=>h6 a b λa b=>0<b/\Q (.int (a %b)) h
def Obj.DQ(k v:V)(P:Obj->Prop):Obj->Prop
 |.list _=>False
 |.dI es=>bB k.fA λi=>es.length<aN/\P (.dI (bA es i v))
 |.dS es=>bB k.xk λi=>es.length<aN/\P (.dS (bA es i v))
 |.dP es=>bB (de k) λi=>es.length<aN/\P (.dP (bA es i v))
 |.dN es=>bB (gx k) λi=>es.length<aN/\P (.dN (bA es i v))
def gA(h:Hp)(c k v:V)(Q:Hp->Prop):Prop:=bB c.tC λr=>bB (h.o r) λo=>o.DQ k v λx=>Q (h.set r x)
def Obj.mB(k:V)(P:Obj->Prop):Obj->Prop
 |.dI es=>bB k.fA λi=>(bc es i).isSome=true/\es.length<=aN/\P (.dI (gf es i))
 |.dP es=>bB (de k) λi=>(bc es i).isSome=true/\es.length<=aN/\P (.dP (gf es i))
 |_=>False
def z4(h:Hp)(c k:V)(Q:Hp->Prop):Prop:=bB c.tC λr=>bB (h.o r) λo=>o.mB k λx=>Q (h.set r x)
noncomputable def DK.val(a:aV):DK->Option V
 |.str s=>U (.str s)
 |.var i=>(a[i]?).join
noncomputable def DK.vals(a:aV):List DK->Option (List V)
 |[]=>U []
 |k::r=>(k.val a).bind λv=>(DK.vals a r).map λl=>v::l
def dF(K vs:List V)(Q:PV)(h:Hp):Prop:=
 match K with
 |[]=>(match vs with
  |[]=>(∃k t,Q (.ref ⟨k,t,h.n⟩) (h.new k t (.dI [])))\/(∃k t,Q (.ref ⟨k,t,h.n⟩) (h.new k t (.dP [])))\/(∃k t,Q (.ref ⟨k,t,h.n⟩) (h.new k t (.dN [])))
  |_=>False)
 |k::K=>(match k with
  |.int i=>(match K with
   |[]=>bB (mf vs) λv=>∃k t,Q (.ref ⟨k,t,h.n⟩) (h.new k t (.dI [(i,v)]))
   |_=>False)
  |k=>bB (lp (k::K)) λl=>l.Nodup/\l.length=vs.length/\l.length<=15/\∃k t,Q (.ref ⟨k,t,h.n⟩) (h.new k t (.dS (l.zip vs))))
inductive It where
 |cZ (r:cq) (i:Nat)
 |dict (r:cq) (v:Nat) (l:List V)
 |bp (l:List V)
noncomputable def Obj.it(r:cq)(n:Nat):Obj->Option It
 |.list _=>U (.cZ r 0)
 |.dI es=>U (.dict r n (ae (es.map (·.1))))
 |.dP es=>U (.dict r n (es.map λe=>V.aA (ae e.1)))
 |_=>.none
noncomputable def It.start(h:Hp):V->Option It
 |.fl xs=>U (.bp xs)
 |.aA xs=>U (.bp xs)
 |.yB n=>U (.bp ((LP n.toNat).map λ(i:Nat)=>V.int i))
 |.ref r=>(h.o r).bind (Obj.it r (h.e4 r))
 |_=>.none
noncomputable def It.next(h:Hp):It->Option (Option (V×It))
 |.bp []=>U .none
 |.bp (v::r)=>U (U (v,.bp r))
 |.cZ r i=>((h.o r).bind Obj.io).map λxs=>xs[i]?.map λv=>(v,.cZ r (i+1))
 |.dict r n l=>if h.e4 r=n/\(h.o r).isSome=true then(match l with
   |[]=>U .none
   |v::l=>U (U (v,.dict r n l)))
  else .none
def Obj.toL(Q:PV)(h:Hp):Obj->Prop
 |.list xs=>newList xs Q h
 |.dI es=>newList (ae (es.map (·.1))) Q h
 |_=>False
def HQ(v:V)(Q:PV)(h:Hp):Prop:=match v with
 |.fl xs=>newList xs Q h
 |.ref r=>bB (h.o r) (Obj.toL Q h)
 |_=>False
abbrev I0(Q:PV)(h:Hp):List V->Prop:=λxs=>xs.length<=aN/\Q (.int xs.length) h
abbrev Kd(Q:PV)(h:Hp):List V->Prop:=λxs=>xs.length<=aN/\Q (.aA xs) h
def E'(v:V)(Q:PV)(h:Hp):Prop:=match v with
 |.aA xs=>Q (.aA xs) h
 |v=>bB (cb h v) (Kd Q h)
def vU(xs:List V)(Q:PV)(h:Hp):Prop:=xs.length<64/\bB (iH xs) λl=>newList (ae (cG l)) Q h
def Obj.pq(Q:PV)(h:Hp):Obj->Prop
 |.list xs=>vU xs Q h
 |.dI es=>es.length<64/\newList (ae (cG (es.map (·.1)))) Q h
 |.dP es=>es.length<64/\(∀e∈es,e.1≠[])/\∀l:List (List Int),l.Perm (es.map (·.1))->newList (l.map λl=>V.aA (ae l)) Q h
 |_=>False
def Hc(v:V)(Q:PV)(h:Hp):Prop:=match v with
 |.fl xs=>vU xs Q h
 |.ref r=>bB (h.o r) (Obj.pq Q h)
 |_=>False
def qI(b:BI)(vs:List V)(Q:PV)(h:Hp):Prop:=match b with
 |.cQ=>bB (mf vs) λv=>bB (cb h v) (I0 Q h)
 |.list=>bB (mf vs) λv=>HQ v Q h
 |.tuple=>bB (mf vs) λv=>E' v Q h
 |.sorted=>bB (mf vs) λv=>Hc v Q h
 |.e6=>bB (x2 vs) λp=>bB p.1.rR λxs=>bB p.2.rR λys=>newList ((xs.zip ys).map λp=>V.aA [p.1,p.2]) Q h
 |.range=>bB (mf vs) λv=>bB v.fA λn=>0<=n/\n<=aN/\Q (.yB n) h
 |.min=>bB (x2 vs) λp=>h6 p.1 p.2 λa b=>Q (.int (if b<a then b else a)) h
 |.max=>bB (x2 vs) λp=>h6 p.1 p.2 λa b=>Q (.int (if a<b then b else a)) h
 |.int=>bB (mf vs) λv=>bB v.fA λa=>Q (.int a) h
 |.hg=>bB (mf vs) λv=>bB (cb h v) λ_=>Q (.bool true) h
 |.dict=>False
def Obj.cont(h:Hp)(r:cq)(m:String)(vs:List V)(Q:PV):Obj->Prop
 |.list xs=>(match vs with
  |[]=>m="pop"/\xs.length<=aN/\bB xs.getLast? λv=>Q v (h.set r (.list xs.dropLast))
  |v::w=>w=[]/\((m="append"/\xs.length<aN/\Q .none (h.set r (.list (xs++[v]))))\/
    (m="extend"/\v≠.ref r/\bB (cb h v) λys=>xs.length+ys.length<=aN/\Q .none (h.set r (.list (xs++ys))))))
 |.dI es=>bB (mf vs) λk=>bB k.fA λi=>m="get"/\Q ((bc es i).getD .none) h
 |.dS _=>False
 |.dP es=>bB (mf vs) λk=>bB (de k) λi=>m="get"/\Q ((bc es i).getD .none) h
 |.dN es=>bB (x2 vs) λp=>bB (gx p.1) λi=>m="get"/\Q ((bc es i).getD p.2) h
def ih(h:Hp)(o:V)(m:String)(vs:List V)(Q:PV):Prop:=bB o.tC λr=>bB (h.o r) (Obj.cont h r m vs Q)
noncomputable def Obj.F8:Obj->Bool
 |.list _=>true
 |_=>false
noncomputable def kindOf(h:Hp)(v:V):Option Bool:=(v.tC.bind h.o).map Obj.F8
noncomputable def vx:Bool->String->Bool
 |true,m=>m=="append"||m=="pop"||m=="extend"
 |false,m=>m=="get"
noncomputable def Obj.bC:Obj->Option (List (String×V))
 |.dS fs=>U fs
 |_=>.none
noncomputable def bC(h:Hp)(r:cq):Option (List (String×V)):=(h.o r).bind Obj.bC
abbrev Ctx:=String->List V->PV->Hp->Prop
section
variable {α β:Type}
abbrev Fq(Q:α->Hp->Prop)(h:Hp):α->Prop:=λv=>Q v h
abbrev oo(f:(β->Hp->Prop)->Hp->Prop)(g:α->β->Hp->Prop):α->Hp->Prop:=λx=>f (g x)
abbrev n0(W:aV->β->Hp->Prop)(Q:β):aV->Hp->Prop:=λa=>W a Q
end
abbrev r7(f:String)(P:V->Prop):List (String×V)->Prop:=λfs=>bB (bc fs f) P
abbrev Gn(f:String)(Q:PV):PV:=λo h=>match o with
 |.eQ _ r=>bB (bC h r) (r7 f (Fq Q h))
 |_=>False
abbrev GF(Q:PV):V->PV:=λc k h=>bB (kY h c k) (Fq Q h)
abbrev Iq(xs:List V)(Q:PV)(h:Hp):Int->Prop:=λn=>0<=n/\n<=mc/\newList (xs.take n.toNat) Q h
abbrev IY(k:V)(Q:PV)(h:Hp):List V->Prop:=λxs=>bB k.fA (Iq xs Q h)
abbrev zY(Q:PV):V->PV:=λc k h=>bB (cb h c) (IY k Q h)
abbrev JY(Q:PV)(h:Hp):List V->Prop:=λxs=>newList xs.reverse Q h
abbrev IP(Q:PV):PV:=λc h=>bB (cb h c) (JY Q h)
abbrev HG(Q:PV):List V->Hp->Prop:=λvs h=>vs.length<=aN/\Q (.aA vs) h
abbrev jJ(Q:PV):List V->Hp->Prop:=λvs=>newList vs Q
abbrev DZ(Q:PV):List V->List V->Hp->Prop:=λk v=>dF k v Q
abbrev J5(W:(List V->Hp->Prop)->Hp->Prop)(Q:PV)(h:Hp):List V->Prop:=λk=>W (DZ Q k) h
abbrev GG(op:Op)(Q:PV):V->PV:=λx y=>ub op x y Q
abbrev FJ(op:Cm)(Q:Bool->Hp->Prop):V->PV:=λx y h=>bB (gI h op x y) (Fq Q h)
abbrev Gp(Q:PV):Bool->Hp->Prop:=λt=>Q (.bool t)
abbrev Jc(Q:Bool->Hp->Prop):Bool->Hp->Prop:=λt=>Q (!t)
abbrev BK(Q:Bool->Hp->Prop):PV:=λv h=>bB (truthy v) (Fq Q h)
abbrev BF(f g:Hp->Prop):Bool->Hp->Prop:=λt h=>if t=true then f h else g h
abbrev Dl(Q:List V->Hp->Prop):V->List V->Hp->Prop:=λv vs=>Q (v::vs)
abbrev Jb(b:BI)(Q:PV):List V->Hp->Prop:=λvs=>qI b vs Q
abbrev Eo(acc:List V)(Q:List V->Hp->Prop):PV:=λx h=>acc.length<aN/\Q (acc++[x]) h
abbrev w4(T:V->(Bool->Hp->Prop)->Hp->Prop)(W:V->PV->Hp->Prop):V->List V->(List V->Hp->Prop)->Hp->Prop:=λv acc Q=>T v (BF (W v (Eo acc Q)) (Q acc))
abbrev G9(o:V)(m:String)(Q:PV)(k:Bool):List V->Hp->Prop:=λvs h=>kindOf h o=U k/\ih h o m vs Q
abbrev Ko(o:V)(m:String)(W:(List V->Hp->Prop)->Hp->Prop)(Q:PV)(h:Hp):Bool->Prop:=λk=>vx k m=true/\W (G9 o m Q k) h
abbrev Gb(m:String):List (String×V)->Prop:=λfs=>bc fs m=.none
abbrev kE(K:Hp->Prop):PV:=λ_=>K
abbrev sP(P:Prop):V->Prop:=λ_=>P
def ob(o:Option (Option (V×It)))(cY:Prop)(go:V->It->Prop):Prop:=match o with
 |.none=>False
 |some p=>match p with
  |.none=>cY
  |some p=>go p.1 p.2
def iter{b:Type}(step:V->b->(b->Hp->Prop)->Hp->Prop):Nat->It->b->(b->Hp->Prop)->Hp->Prop
 |0,_,_,_,_=>False
 |n+1,it,a,Q,h=>ob (it.next h) (Q a h) λv i=>step v a (λA=>iter step n i A Q) h
abbrev Ku(step:V->List V->(List V->Hp->Prop)->Hp->Prop)(Q:PV)(h:Hp):It->Prop:=λj=>∃n,iter step n j [] (jJ Q) h
abbrev HZ(step:V->List V->(List V->Hp->Prop)->Hp->Prop)(Q:PV):PV:=λv h=>bB (It.start h v) (Ku step Q h)
section
variable (G:String->Option V) (C:Ctx)
abbrev z8(f:String)(Q:PV):List V->Hp->Prop:=λvs=>C f vs Q
abbrev Hz(f:String)(o:V)(Q:PV):List V->Hp->Prop:=λvs=>C f (o::vs) Q
abbrev DW(m:String)(W:(List V->Hp->Prop)->Hp->Prop)(Q:PV):PV:=λo h=>match o with
 |.eQ K r=>bB (bC h r) (Gb m)/\bB (G (K++"."++m)) (sP (W (Hz C (K++"."++m) o Q) h))
 |o=>bB (kindOf h o) (Ko o m W Q h)
abbrev DC(o:V)(Q:PV):PV:=λv h=>v=.none/\Q o h
abbrev IJ(K:String)(Q:PV):List V->Hp->Prop:=λvs h=>∃k t,C (K++".__init__") (.eQ K ⟨k,t,h.n⟩::vs) (DC (.eQ K ⟨k,t,h.n⟩) Q) (h.new k t (.dS []))
mutual
def Ex.wp:Ex->aV->PV->Hp->Prop
 |.aE c,_,Q,h=>Q c h
 |.var i,d,Q,h=>bB (d[i]?).join (Fq Q h)
 |.c5 x,_,Q,h=>bB (G x) (Fq Q h)
 |.ao e f,d,Q,h=>e.wp d (Gn f Q) h
 |.sub e i,d,Q,h=>e.wp d (oo (i.wp d) (GF Q)) h
 |.gj e i,d,Q,h=>e.wp d (oo (i.wp d) (zY Q)) h
 |.EY e,d,Q,h=>e.wp d (IP Q) h
 |.aA es,d,Q,h=>Ex.bh es d (HG Q) h
 |.list es,d,Q,h=>Ex.bh es d (jJ Q) h
 |.dict k vs,d,Q,h=>bB (DK.vals d k) (J5 (Ex.bh vs d) Q h)
 |.hQ op a b,d,Q,h=>a.wp d (oo (b.wp d) (GG op Q)) h
 |.bV op a b,d,Q,h=>a.wp d (oo (b.wp d) (FJ op (Gp Q))) h
 |.not _,_,_,_=>False
 |.and _,_,_,_=>False
 |.or _,_,_,_=>False
 |.cF c a b,d,Q,h=>c.qX d (BF (a.wp d Q) (b.wp d Q)) h
 |.call f es,d,Q,h=>Ex.bh es d (z8 C f Q) h
 |.az e m es,d,Q,h=>e.wp d (DW G C m (Ex.bh es d) Q) h
 |.bi b es,d,Q,h=>Ex.bh es d (Jb b Q) h
 |.new K es,d,Q,h=>Ex.bh es d (IJ C K Q) h
 |.comp elt i it c,d,Q,h=>it.wp d (HZ (w4 (λv=>Ex.EF c (d.set i (U v))) (λv=>elt.wp (d.set i (U v)))) Q) h
def Ex.bh:List Ex->aV->(List V->Hp->Prop)->Hp->Prop
 |[],_,Q,h=>Q [] h
 |e::r,d,Q,h=>e.wp d (oo (Ex.bh r d) (Dl Q)) h
def Ex.EF:Option Ex->aV->(Bool->Hp->Prop)->Hp->Prop
 |.none,_,Q,h=>Q true h
 |some e,d,Q,h=>e.qX d Q h
def Ex.qX:Ex->aV->(Bool->Hp->Prop)->Hp->Prop
 |.not a,d,Q,h=>a.qX d (Jc Q) h
 |.and es,d,Q,h=>Ex.zr es d Q h
 |.or es,d,Q,h=>Ex.Em es d Q h
 |.bV op a b,d,Q,h=>a.wp d (oo (b.wp d) (FJ op Q)) h
 |.var i,d,Q,h=>bB (d[i]?).join (Fq (BK Q) h)
 |.call f es,d,Q,h=>Ex.bh es d (z8 C f (BK Q)) h
 |.bi b es,d,Q,h=>Ex.bh es d (Jb b (BK Q)) h
 |.az e m es,d,Q,h=>e.wp d (DW G C m (Ex.bh es d) (BK Q)) h
 |_,_,_,_=>False
def Ex.zr:List Ex->aV->(Bool->Hp->Prop)->Hp->Prop
 |[],_,Q,h=>Q true h
 |e::r,d,Q,h=>e.qX d (BF (Ex.zr r d Q) (Q false)) h
def Ex.Em:List Ex->aV->(Bool->Hp->Prop)->Hp->Prop
 |[],_,Q,h=>Q false h
 |e::r,d,Q,h=>e.qX d (BF (Q true) (Ex.Em r d Q)) h
end
abbrev BE(r:cq)(f:String)(v:V)(K:Hp->Prop)(h:Hp):List (String×V)->Prop:=λfs=>fs.length<900/\K (h.set r (.dS (bA fs f v)))
abbrev Jk(f:String)(v:V)(K:Hp->Prop):PV:=λo h=>match o with
 |.eQ _ r=>bB (bC h r) (BE r f v K h)
 |_=>False
abbrev HX(v:V)(K:Hp->Prop):V->PV:=λc k h=>gA h c k v K
mutual
def Tg.wp:Tg->V->aV->(aV->Hp->Prop)->Hp->Prop
 |.var i,v,a,Q,h=>i<a.length/\Q (a.set i (U v)) h
 |.ao e f,v,a,Q,h=>e.wp G C a (Jk f v (Q a)) h
 |.sub e i,v,a,Q,h=>e.wp G C a (oo (i.wp G C a) (HX v (Q a))) h
 |.aA T,v,a,Q,h=>match v with
  |.aA vs=>vs.length=T.length/\Tg.bh T vs a Q h
  |_=>False
def Tg.bh:List Tg->List V->aV->(aV->Hp->Prop)->Hp->Prop
 |t::T,v::vs,a,Q,h=>Tg.wp t v a (n0 (Tg.bh T vs) Q) h
 |_,_,a,Q,h=>Q a h
end
inductive Fl where |next |ret (v:V)
abbrev PS:=Fl->aV->Hp->Prop
abbrev Fl.seq(K:aV->Hp->Prop)(Q:PS):PS:=λf a h=>match f with
 |.next=>K a h
 |.ret v=>Q (.ret v) a h
def qf(c:aV->(Bool->Hp->Prop)->Hp->Prop)(b:aV->PS->Hp->Prop):Nat->aV->PS->Hp->Prop
 |0,_,_,_=>False
 |n+1,a,Q,h=>c a (BF (b a (Fl.seq (n0 (qf c b n) Q) Q)) (Q .next a)) h
def dp(t:V->aV->(aV->Hp->Prop)->Hp->Prop)(b:aV->PS->Hp->Prop):Nat->It->aV->PS->Hp->Prop
 |0,_,_,_,_=>False
 |n+1,it,a,Q,h=>ob (it.next h) (Q .next a h) λv i=>t v a (n0 b (Fl.seq (n0 (dp t b n i) Q) Q)) h
abbrev Ft(W:V->aV->(aV->Hp->Prop)->Hp->Prop)(a:aV)(K:aV->Hp->Prop):PV:=λv=>W v a K
abbrev Ju(K:Hp->Prop):V->PV:=λc k h=>z4 h c k K
abbrev Gj(Q:PS)(a:aV):PV:=λv=>Q (.ret v) a
abbrev J7(T:V->aV->(aV->Hp->Prop)->Hp->Prop)(B:aV->PS->Hp->Prop)(a:aV)(Q:PS)(h:Hp):It->Prop:=λj=>∃n,dp T B n j a Q h
abbrev GU(T:V->aV->(aV->Hp->Prop)->Hp->Prop)(B:aV->PS->Hp->Prop)(a:aV)(Q:PS):PV:=λv h=>bB (It.start h v) (J7 T B a Q h)
mutual
def St.wp:St->aV->PS->Hp->Prop
 |.expr e,d,Q,h=>e.wp G C d (kE (Q .next d)) h
 |.a8 t e,d,Q,h=>e.wp G C d (Ft (Tg.wp G C t) d (Q .next)) h
 |.mB e i,d,Q,h=>e.wp G C d (oo (i.wp G C d) (Ju (Q .next d))) h
 |.cF c a b,d,Q,h=>c.qX G C d (BF (St.bh a d Q) (St.bh b d Q)) h
 |.while c b,d,Q,h=>∃n,qf (c.qX G C) (St.bh b) n d Q h
 |.for t e b,d,Q,h=>e.wp G C d (GU (Tg.wp G C t) (St.bh b) d Q) h
 |.ret e,d,Q,h=>e.wp G C d (Gj Q d) h
 |.raise,_,_,_=>False
def St.bh:List St->aV->PS->Hp->Prop
 |[],d,Q,h=>Q .next d h
 |s::r,d,Q,h=>s.wp d (Fl.seq (n0 (St.bh r) Q) Q) h
end
end
inductive Gc:V->Hp->V->Hp->Prop
 |refl {v h}:Gc v h v h
 |dZ {r xs h}:h.o r=U (.list xs)->Gc (.ref r) h (.fl xs) (h.drop r)
 |fst {r xs b h}:h.o r=U (.list xs)->b≠.ref r->Gc (.aA [.ref r,b]) h (.aA [.fl xs,b]) (h.drop r)
 |Jp {r xs q ys h}:h.o r=U (.list xs)->h.o q=U (.list ys)->r≠q->Gc (.aA [.ref r,.ref q]) h (.aA [.fl xs,.fl ys]) ((h.drop r).drop q)
structure Fn where
 params:Nat
 slots:Nat
 body:List St
inductive Jw(v:V)(h:Hp)(Q:PV):Prop
 |mk (a:V) (h':Hp) (f:Gc v h a h') (q:Q a h')
abbrev Fl.cY(Q:PV):PS:=λf _ h=>match f with
 |.next=>Q .none h
 |.ret v=>Jw v h Q
def Hk(G:String->Option V)(C:Ctx)(f:Fn)(vs:List V)(Q:PV)(h:Hp):Prop:=
 vs.length=f.params/\St.bh G C f.body (vs.map U++NG (f.slots-f.params) .none) (Fl.cY Q) h
abbrev Kc(G:String->Option V)(C:Ctx)(vs:List V)(Q:PV)(h:Hp):Fn->Prop:=λf=>Hk G C f vs Q h
noncomputable def a5(G:String->Option V)(T:String->Option Fn):Nat->Ctx
 |0,_,_,_,_=>False
 |n+1,f,vs,Q,h=>bB (T f) (Kc G (a5 G T n) vs Q h)
theorem al{b:Type}{a:b}{P:Prop}(h:(KF:Option b)=U a):P:=nomatch h
theorem aK{P:Prop}(h:false=true):P:=nomatch h
theorem bG{c d:Type}{o:Option c}{f:c->Option d}{b:d}(h:o.bind f=U b):CV o λa=>f a=U b:=by
 cases o with
 |none=>exact al h
 |some a=>exact⟨a,rfl,h⟩
theorem fz{c d:Type}{o:Option c}{f:c->d}{b:d}(h:o.map f=U b):CV o λa=>f a=b:=by
 cases o with
 |none=>exact al h
 |some a=>exact⟨a,rfl,KC h⟩
theorem c2{v:V}{i:Int}(h:v.fA=U i):v=.int i:=by
 cases v with
 |int j=>exact congrArg V.int (KC h)
 |_=>exact al h
theorem ru{v:V}{i:String}(h:v.xk=U i):v=.str i:=by
 cases v with
 |str j=>exact congrArg V.str (KC h)
 |_=>exact al h
theorem om{v:V}{i:List V}(h:v.rR=U i):v=.aA i:=by
 cases v with
 |aA j=>exact congrArg V.aA (KC h)
 |_=>exact al h
theorem uf{v:V}{i:cq}(h:v.tC=U i):v=.ref i:=by
 cases v with
 |ref j=>exact congrArg V.ref (KC h)
 |_=>exact al h
theorem vP{o:Obj}{i:List V}(h:o.io=U i):o=.list i:=by
 cases o with
 |list j=>exact congrArg Obj.list (KC h)
 |_=>exact al h
theorem mZ{v:V}(h:mf l=U v):l=[v]:=by
 cases l with
 |nil=>exact al h
 |cons a r=>cases r with
  |nil=>exact congrArg (λa=>[a]) (KC h)
  |cons=>exact al h
theorem An{p:V×V}(h:x2 l=U p):l=[p.1,p.2]:=by
 cases l with
 |nil=>exact al h
 |cons a r=>cases r with
  |nil=>exact al h
  |cons b r=>cases r with
   |nil=>exact congrArg (λp:V×V=>[p.1,p.2]) (KC h)
   |cons=>exact al h
theorem Di{p:V×V×V×V}(h:Du l=U p):l=[p.1,p.2.1,p.2.2.1,p.2.2.2]:=by
 cases l with
 |nil=>exact al h
 |cons a r=>cases r with
  |nil=>exact al h
  |cons b r=>cases r with
   |nil=>exact al h
   |cons c r=>cases r with
    |nil=>exact al h
    |cons d r=>cases r with
     |nil=>exact congrArg (λp:V×V×V×V=>[p.1,p.2.1,p.2.2.1,p.2.2.2]) (KC h)
     |cons=>exact al h
open PySem
abbrev Nm:=List (KR×Nat)
structure Gl where
 names:List KR
 gJ:List String
 cells:List KR
noncomputable def Gl.contains(g:Gl)(x:KR):Bool:=g.names.contains x
noncomputable def Op.py:Op->Operator
 |.add=>.Add |.sub=>.Sub |.mul=>.Mult |.IQ=>.FloorDiv |.Cy=>.Mod
noncomputable def Cm.py:Cm->CmpOp
 |.eq=>.Eq |.ne=>.NotEq |.lt=>.Lt |.le=>.LtE |.gt=>.Gt |.ge=>.GtE
 |.dK=>.In |.eW=>.NotIn |.is=>.Is |.mW=>.IsNot
noncomputable def BI.name:BI->String
 |.cQ=>"len" |.list=>"list" |.tuple=>"tuple" |.sorted=>"sorted" |.e6=>"list" |.range=>"range"
 |.min=>"min" |.max=>"max" |.int=>"int" |.hg=>"isinstance" |.dict=>"dict"
noncomputable def wh:O7:=⟨.module,[],false,false,[]⟩
noncomputable def s0:KR:=KD ""
structure Vw where
 cu:List KN
 lb:List KN
 num:Nat
 J1:O7
 name:KR
noncomputable def vw:KN->Vw
 |.BoolOp _ l _=>⟨l,[],0,wh,s0⟩
 |.BinOp l _ r _=>⟨[l,r],[],0,wh,s0⟩
 |.UnaryOp _ x _=>⟨[x],[],0,wh,s0⟩
 |.IfExp t b o _=>⟨[t,b,o],[],0,wh,s0⟩
 |.Dict K l _=>⟨l,K.filterMap id,0,wh,s0⟩
 |.ListComp e g S _=>⟨e::(match g with |⟨t,i,I,_⟩::_=>t::i::I |[]=>[]),[],0,S,s0⟩
 |.Compare l _ R _=>⟨l::R,[],0,wh,s0⟩
 |.Call f l _ _=>⟨f::l,[],0,wh,s0⟩
 |.Constant _ k _=>⟨[],[],k,wh,s0⟩
 |.Attribute v _ _=>⟨[v],[],0,wh,s0⟩
 |.Subscript v s _=>⟨[v,s],[],0,wh,s0⟩
 |.Name x _=>⟨[],[],0,⟨.module,[],false,false,[]⟩,x⟩
 |.List l _=>⟨l,[],0,wh,s0⟩
 |.Tuple l k _=>⟨l,[],k,wh,s0⟩
 |.Slice l u s _=>⟨l.toList++u.toList++s.toList,[],0,wh,s0⟩
 |_=>⟨[],[],0,wh,s0⟩
noncomputable def cu(e:KN):List KN:=(vw e).cu
noncomputable def JK:KN:=.Constant .none 0 ⟨0,0,0,0⟩
noncomputable def oN:Nat->List KN->KN
 |_,[]=>JK
 |0,e::_=>e
 |n+1,_::r=>oN n r
noncomputable def cO(e:KN)(n:Nat):KN:=oN n (cu e)
noncomputable def sR(e:KN):List KN:=(vw e).lb
noncomputable def hl(e:KN):Nat:=(vw e).num
noncomputable def l0(e:KN):O7:=(vw e).J1
noncomputable def j1(e:KN):KR:=(vw e).name
noncomputable def oV(nm:Nm)(i:Nat):KR:=match nm.find? λp=>p.2==i with
 |some p=>p.1
 |none=>KD ""
noncomputable def b0(nm:Nm)(x:KR)(i:Nat):List (KR×Mc)->Nm
 |[]=>[]
 |(y,k)::r=>if y==x then(y,i)::b0 nm x i r else match k with
  |.free=>(match nm.lookup y with |some j=>(y,j)::b0 nm x i r |none=>b0 nm x i r)
  |_=>b0 nm x i r
noncomputable def wv(n:List (KR×Mc)):List KR:=(n.filter λp=>p.2==.globalImplicit).map (·.1)
noncomputable def wC(n:List (KR×Mc)):List KR:=(n.filter λp=>p.2==.cell||p.2==.free).map (·.1)
noncomputable def li(f:List String)(s:O7):Gl:=⟨wv s.names,f,wC s.names⟩
noncomputable def mJ(s:O7)(x:KR)(i:Nat)(nm:Nm)(g:Gl):Bool:=
 s.kind==.function&&decide ((s.names.map (·.1)).Nodup)&&(s.names.lookup x==U .local)&&(nm.all λp=>p.2 !=i)&&
 s.names.all λp=>(p.1==x&&p.2==.local)||(p.1==(".0":KR)&&p.2==.local)||p.2==.globalImplicit||(p.2==.free&&(nm.lookup p.1).isSome&&g.cells.contains p.1)
noncomputable def fF(x:KR):Bool:=!(x==("__debug__":KR))&&!(x==("__classdict__":KR))
noncomputable def jP:List String:=["VALUE_OPS","BY_ARGUMENTS","BOOL","INT"]
noncomputable def kD:List String:=["Congruence","Bank"]
noncomputable def gB:List String:=["bank","root","members","uses","value","apart","watchers","up","table","sides","told","news","queue","clash","clash_level","trail","marks",
 "sort_names","sort_widths","fun_names","fun_args","fun_results","fresh_count","term_ops","term_args","term_sorts","term_datas","numbers","true_number","false_number"]
noncomputable def DY(c:V)(e:KN):KN:=match c with
 |.none=>.Constant .none (hl e) e.pos
 |.bool b=>.Constant (.bool b) (hl e) e.pos
 |.int i=>if i<0 then .UnaryOp .USub (.Constant (.int (-i)) (hl (cO e 0)) (cO e 0).pos) e.pos else .Constant (.int i) (hl e) e.pos
 |.str s=>.Constant (.str (KD s)) (hl e) e.pos
 |_=>JK
noncomputable def HI:V->Bool
 |.none=>true
 |.bool _=>true
 |.int _=>true
 |.str _=>true
 |_=>false
noncomputable def DK.py(nm:Nm):DK->KN->KN
 |.str s,e=>.Constant (.str (KD s)) (hl e) e.pos
 |.var i,e=>.Name (oV nm i) e.pos
noncomputable def DK.cP(nm:Nm):List DK->List KN->List (Option KN)
 |[],_=>[]
 |k::r,es=>U (k.py nm (oN 0 es))::DK.cP nm r es.tail
mutual
noncomputable def Ex.py(nm:Nm):Ex->KN->KN
 |.aE c,e=>DY c e
 |.var i,e=>.Name (oV nm i) e.pos
 |.c5 g,e=>.Name (KD g) e.pos
 |.ao m f,e=>.Attribute (m.py nm (cO e 0)) (KD f) e.pos
 |.sub m i,e=>.Subscript (m.py nm (cO e 0)) (i.py nm (cO e 1)) e.pos
 |.gj m i,e=>.Subscript (m.py nm (cO e 0)) (.Slice none (U (i.py nm (cO (cO e 1) 0))) none (cO e 1).pos) e.pos
 |.EY m,e=>.Subscript (m.py nm (cO e 0)) (.Slice none none (U (.UnaryOp .USub (.Constant (.int 1) (hl (cO (cO (cO e 1) 0) 0)) (cO (cO (cO e 1) 0) 0).pos) (cO (cO e 1) 0).pos)) (cO e 1).pos) e.pos
 |.aA M,e=>.Tuple (Ex.cP nm M (cu e)) (hl e) e.pos
 |.list M,e=>.List (Ex.cP nm M (cu e)) e.pos
 |.dict k vs,e=>.Dict (DK.cP nm k (sR e)) (Ex.cP nm vs (cu e)) e.pos
 |.hQ op a b,e=>.BinOp (a.py nm (cO e 0)) op.py (b.py nm (cO e 1)) e.pos
 |.bV op a b,e=>.Compare (a.py nm (cO e 0)) [op.py] [b.py nm (cO e 1)] e.pos
 |.not a,e=>.UnaryOp .Not (a.py nm (cO e 0)) e.pos
 |.and M,e=>.BoolOp .And (Ex.cP nm M (cu e)) e.pos
 |.or M,e=>.BoolOp .Or (Ex.cP nm M (cu e)) e.pos
 |.cF c a b,e=>.IfExp (c.py nm (cO e 0)) (a.py nm (cO e 1)) (b.py nm (cO e 2)) e.pos
 |.call f M,e=>.Call (.Name (KD f) (cO e 0).pos) (Ex.cP nm M (cu e).tail) [] e.pos
 |.az o m M,e=>.Call (.Attribute (o.py nm (cO (cO e 0) 0)) (KD m) (cO e 0).pos) (Ex.cP nm M (cu e).tail) [] e.pos
 |.bi .e6 M,e=>.Call (.Name (KD "list") (cO e 0).pos) [.Call (.Name (KD "zip") (cO (cO e 1) 0).pos) (Ex.cP nm M (cu (cO e 1)).tail) [] (cO e 1).pos] [] e.pos
 |.bi .hg M,e=>.Call (.Name (KD "isinstance") (cO e 0).pos) (Ex.cP nm M (cu e).tail++[.Name (KD "list") (cO e 2).pos]) [] e.pos
 |.bi b M,e=>.Call (.Name (KD b.name) (cO e 0).pos) (Ex.cP nm M (cu e).tail) [] e.pos
 |.new K M,e=>.Call (.Name (KD K) (cO e 0).pos) (Ex.cP nm M (cu e).tail) [] e.pos
 |.comp elt i it c,e=>.ListComp (elt.py (b0 nm (j1 (cO e 1)) i (l0 e).names) (cO e 0)) [⟨.Name (j1 (cO e 1)) (cO e 1).pos,it.py nm (cO e 2),Ex.FD (b0 nm (j1 (cO e 1)) i (l0 e).names) c (cO e 3),0⟩] (l0 e) e.pos
noncomputable def Ex.cP(nm:Nm):List Ex->List KN->List KN
 |[],_=>[]
 |m::r,es=>m.py nm (oN 0 es)::Ex.cP nm r es.tail
noncomputable def Ex.FD(nm:Nm):Option Ex->KN->List KN
 |none,_=>[]
 |some m,e=>[m.py nm e]
end
noncomputable def Ex.oa:Ex->Bool
 |.call .. =>true |.az .. =>true |.bi .. =>true |.new .. =>true
 |_=>false
noncomputable def Ex.uE:Ex->Bool
 |.comp .. =>true
 |_=>false
noncomputable def DK.ok(nm:Nm):DK->Bool
 |.str _=>true
 |.var i=>nm.lookup (oV nm i)==U i&&fF (oV nm i)
mutual
noncomputable def Ex.ok(nm:Nm)(G:Gl):Ex->KN->Bool
 |.aE c,_=>HI c
 |.var i,_=>nm.lookup (oV nm i)==U i&&fF (oV nm i)
 |.c5 g,_=>jP.contains g&&(G.contains (KD g)&&fF (KD g))
 |.ao m f,e=>gB.contains f&&(!m.oa&&m.ok nm G (cO e 0))
 |.sub m i,e=>m.ok nm G (cO e 0)&&i.ok nm G (cO e 1)
 |.gj m i,e=>m.ok nm G (cO e 0)&&i.ok nm G (cO (cO e 1) 0)
 |.EY m,e=>m.ok nm G (cO e 0)
 |.aA M,e=>Ex.hO nm G M (cu e)
 |.list M,e=>Ex.hO nm G M (cu e)
 |.dict k vs,e=>k.all (DK.ok nm)&&(Ex.hO nm G vs (cu e)&&(decide (k.length=vs.length)&&decide (vs.length<=15)))
 |.hQ _ a b,e=>a.ok nm G (cO e 0)&&b.ok nm G (cO e 1)
 |.bV _ a b,e=>a.ok nm G (cO e 0)&&b.ok nm G (cO e 1)
 |.not a,e=>a.ok nm G (cO e 0)
 |.and M,e=>Ex.hO nm G M (cu e)
 |.or M,e=>Ex.hO nm G M (cu e)
 |.cF c a b,e=>c.ok nm G (cO e 0)&&(a.ok nm G (cO e 1)&&b.ok nm G (cO e 2))
 |.call f M,e=>G.gJ.contains f&&(G.contains (KD f)&&(fF (KD f)&&Ex.hO nm G M (cu e).tail))
 |.az o m M,e=>(cO e 0).pos.endLine==e.pos.line&&(!o.oa&&(decide (M.length<20)&&(o.ok nm G (cO (cO e 0) 0)&&Ex.hO nm G M (cu e).tail)))
 |.bi .e6 M,e=>G.contains (KD "list")&&(G.contains (KD "zip")&&Ex.hO nm G M (cu (cO e 1)).tail)
 |.bi .hg M,e=>G.contains (KD "isinstance")&&(G.contains (KD "list")&&(decide (M.length=1)&&Ex.hO nm G M (cu e).tail))
 |.bi b M,e=>G.contains (KD b.name)&&(fF (KD b.name)&&Ex.hO nm G M (cu e).tail)
 |.new K M,e=>kD.contains K&&(G.contains (KD K)&&(fF (KD K)&&Ex.hO nm G M (cu e).tail))
 |.comp elt i it c,e=>mJ (l0 e) (j1 (cO e 1)) i nm G&&(fF (j1 (cO e 1))&&(it.ok nm G (cO e 2)&&
   (Ex.En (b0 nm (j1 (cO e 1)) i (l0 e).names) (li G.gJ (l0 e)) c (cO e 3)&&elt.ok (b0 nm (j1 (cO e 1)) i (l0 e).names) (li G.gJ (l0 e)) (cO e 0))))
noncomputable def Ex.hO(nm:Nm)(G:Gl):List Ex->List KN->Bool
 |[],_=>true
 |m::r,es=>m.ok nm G (oN 0 es)&&Ex.hO nm G r es.tail
noncomputable def Ex.En(nm:Nm)(G:Gl):Option Ex->KN->Bool
 |none,_=>true
 |some m,e=>m.ok nm G e
end
mutual
noncomputable def Tg.py(nm:Nm):Tg->KN->KN
 |.var i,e=>.Name (oV nm i) e.pos
 |.ao m f,e=>.Attribute (m.py nm (cO e 0)) (KD f) e.pos
 |.sub m i,e=>.Subscript (m.py nm (cO e 0)) (i.py nm (cO e 1)) e.pos
 |.aA t,e=>.Tuple (Tg.cP nm t (cu e)) (hl e) e.pos
noncomputable def Tg.cP(nm:Nm):List Tg->List KN->List KN
 |[],_=>[]
 |m::r,es=>m.py nm (oN 0 es)::Tg.cP nm r es.tail
end
mutual
noncomputable def Tg.ok(nm:Nm)(g:Gl):Tg->KN->Bool
 |.var i,_=>nm.lookup (oV nm i)==U i&&fF (oV nm i)
 |.ao m f,e=>gB.contains f&&(!m.oa&&m.ok nm g (cO e 0))
 |.sub m i,e=>m.ok nm g (cO e 0)&&i.ok nm g (cO e 1)
 |.aA t,e=>Tg.hO nm g t (cu e)
noncomputable def Tg.hO(nm:Nm)(g:Gl):List Tg->List KN->Bool
 |[],_=>true
 |m::r,es=>m.ok nm g (oN 0 es)&&Tg.hO nm g r es.tail
end
noncomputable def e0:KN->Option KR
 |.Name x _=>U x
 |_=>KF
noncomputable def vY(nm:Nm)(t:Tg)(m:Ex)(x v:KN):Bool:=match m with
 |.aA vs=>(match t with
  |.aA T=>!((Ex.cP nm vs (cu v)).all (constantsAlone 8))&&decide (((Tg.cP nm T (cu x)).filterMap e0).Nodup)
  |_=>true)
 |.comp .. =>(match t with
  |.var _=>true
  |.ao .. =>true
  |_=>false)
 |_=>true
noncomputable def Ir:LH->List KN×List LH×List LH
 |.Return v _=>(v.toList,[],[])
 |.Delete T _=>(T,[],[])
 |.Assign T v _=>(v::T,[],[])
 |.For t i b _ _=>([t,i],b,[])
 |.While t b _ _=>([t],b,[])
 |.If t b o _=>([t],b,o)
 |.Expr x _=>([x],[],[])
 |_=>([],[],[])
noncomputable def qa(s:LH):List KN:=(Ir s).1
noncomputable def sk(s:LH)(n:Nat):KN:=oN n (qa s)
noncomputable def qc(s:LH):List LH:=(Ir s).2.1
noncomputable def Go(s:LH):List LH:=(Ir s).2.2
noncomputable def hd:List LH->LH
 |[]=>.Pass ⟨0,0,0,0⟩
 |s::_=>s
mutual
noncomputable def St.py(nm:Nm):St->LH->LH
 |.expr m,s=>.Expr (m.py nm (sk s 0)) s.pos
 |.a8 t m,s=>.Assign [t.py nm (sk s 1)] (m.py nm (sk s 0)) s.pos
 |.mB e i,s=>.Delete [.Subscript (e.py nm (cO (sk s 0) 0)) (i.py nm (cO (sk s 0) 1)) (sk s 0).pos] s.pos
 |.cF c a b,s=>.If (c.py nm (sk s 0)) (St.cP nm a (qc s)) (St.cP nm b (Go s)) s.pos
 |.while c b,s=>.While (c.py nm (sk s 0)) (St.cP nm b (qc s)) [] s.pos
 |.for t e b,s=>.For (t.py nm (sk s 0)) (e.py nm (sk s 1)) (St.cP nm b (qc s)) [] s.pos
 |.ret m,s=>.Return (match qa s with |[]=>none |x::_=>U (m.py nm x)) s.pos
 |.raise,s=>s
noncomputable def St.cP(nm:Nm):List St->List LH->List LH
 |[],_=>[]
 |m::r,S=>m.py nm (hd S)::St.cP nm r S.tail
end
noncomputable def Ex.isNone:Ex->Bool
 |.aE .none=>true
 |_=>false
mutual
noncomputable def St.ok(nm:Nm)(g:Gl):St->LH->Bool
 |.expr m,s=>!m.uE&&m.ok nm g (sk s 0)
 |.a8 t m,s=>vY nm t m (sk s 1) (sk s 0)&&(t.ok nm g (sk s 1)&&m.ok nm g (sk s 0))
 |.mB e i,s=>e.ok nm g (cO (sk s 0) 0)&&i.ok nm g (cO (sk s 0) 1)
 |.cF c a b,s=>c.ok nm g (sk s 0)&&(St.hO nm g a (qc s)&&St.hO nm g b (Go s))
 |.while c b,s=>c.ok nm g (sk s 0)&&St.hO nm g b (qc s)
 |.for t e b,s=>t.ok nm g (sk s 0)&&(e.ok nm g (sk s 1)&&St.hO nm g b (qc s))
 |.ret m,s=>(match qa s with |[]=>m.isNone |x::_=>m.ok nm g x)
 |.raise,_=>true
noncomputable def St.hO(nm:Nm)(g:Gl):List St->List LH->Bool
 |[],_=>true
 |m::r,S=>m.ok nm g (hd S)&&St.hO nm g r S.tail
end
theorem bt{a b:Bool}(h:(a&&b)=true):a=true/\b=true:=by
 induction a with
 |true=>exact⟨rfl,h⟩
 |false=>exact aK h
theorem gT{a b:Bool}{g:Prop}(h:(a&&b)=true)(k:a=true->b=true->g):g:=k (bt h).1 (bt h).2
theorem m7{A a1 a2:Bool}{g:Prop}(h:(A&&(a1&&a2))=true)(k:A=true->a1=true->a2=true->g):g:=gT h λa h=>gT h (k a)
theorem th{A a1 a2 a3:Bool}{g:Prop}(h:(A&&(a1&&(a2&&a3)))=true)(k:A=true->a1=true->a2=true->a3=true->g):g:=gT h λa h=>m7 h (k a)
theorem v6{A a1 a2 a3 b:Bool}{g:Prop}(h:(A&&(a1&&(a2&&(a3&&b))))=true)(k:A=true->a1=true->a2=true->a3=true->b=true->g):g:=gT h λa h=>th h (k a)
theorem y2{i a1 a2 a3 j l m n o p A:Bool}{g:Prop}(h:(i&&(a1&&(a2&&(a3&&(j&&(l&&(m&&(n&&(o&&(p&&A))))))))))=true)(k:i=true->a1=true->a2=true->a3=true->j=true->l=true->m=true->n=true->o=true->p=true->A=true->g):g:=gT h λa h=>gT h λb h=>gT h λc h=>gT h λd h=>gT h λe h=>gT h λf h=>v6 h (k a b c d e f)
theorem E6{l a1 a2 a3 m n o p q r A e f i j:Bool}{g:Prop}(h:(l&&(a1&&(a2&&(a3&&(m&&(n&&(o&&(p&&(q&&(r&&(A&&(e&&(f&&(i&&j))))))))))))))=true)(k:l=true->a1=true->a2=true->a3=true->m=true->n=true->o=true->p=true->q=true->r=true->A=true->e=true->f=true->i=true->j=true->g):g:=gT h λa h=>gT h λb h=>gT h λc h=>gT h λd h=>y2 h (k a b c d)
theorem r1{a:Bool}(h:(!a)=true):a=false:=by
 induction a with
 |true=>exact aK h
 |false=>rfl
end ai
namespace ai.L1
noncomputable def gN:Fn:=⟨2,2,[
  .a8 (.ao (.var 0) "bank") (.var 1),
  .a8 (.ao (.var 0) "root") (.dict [] []),
  .a8 (.ao (.var 0) "members") (.dict [] []),
  .a8 (.ao (.var 0) "uses") (.dict [] []),
  .a8 (.ao (.var 0) "value") (.dict [] []),
  .a8 (.ao (.var 0) "apart") (.dict [] []),
  .a8 (.ao (.var 0) "watchers") (.dict [] []),
  .a8 (.ao (.var 0) "up") (.dict [] []),
  .a8 (.ao (.var 0) "table") (.dict [] []),
  .a8 (.ao (.var 0) "sides") (.dict [] []),
  .a8 (.ao (.var 0) "told") (.dict [] []),
  .a8 (.ao (.var 0) "news") (.list []),
  .a8 (.ao (.var 0) "queue") (.list []),
  .a8 (.ao (.var 0) "clash") (.aE .none),
  .a8 (.ao (.var 0) "clash_level") (.aE (.int 0)),
  .a8 (.ao (.var 0) "trail") (.list []),
  .a8 (.ao (.var 0) "marks") (.list [])]⟩
noncomputable def eG:Fn:=⟨3,3,[
  .ret (.bV .eq (.sub (.ao (.var 0) "root") (.var 1)) (.sub (.ao (.var 0) "root") (.var 2)))]⟩
noncomputable def d4:Fn:=⟨3,5,[
  .a8 (.aA [.var 3,.var 4]) (.aA [.sub (.ao (.var 0) "root") (.var 1),.sub (.ao (.var 0) "root") (.var 2)]),
  .cF (.bV .eq (.var 3) (.var 4)) [
   .ret (.aE .none)] [],
  .cF (.and [.bV .ne (.sub (.ao (.var 0) "value") (.var 3)) (.aE (.int 0)),.bV .ne (.sub (.ao (.var 0) "value") (.var 4)) (.aE (.int 0))]) [
   .ret (.aA [.sub (.ao (.var 0) "value") (.var 3),.sub (.ao (.var 0) "value") (.var 4),.aE (.int 0)])] [],
  .ret (.az (.var 0) "parted_by" [.var 3,.var 4])]⟩
noncomputable def fp:Fn:=⟨1,3,[
  .a8 (.var 1) (.list []),
  .for (.var 2) (.ao (.var 0) "root") [
   .cF (.bV .eq (.sub (.ao (.var 0) "root") (.var 2)) (.var 2)) [
    .expr (.az (.var 1) "append" [.bi .sorted [.sub (.ao (.var 0) "members") (.var 2)]])] []],
  .ret (.bi .sorted [.var 1])]⟩
noncomputable def eX:Fn:=⟨1,1,[
  .ret (.cF (.bV .is (.ao (.var 0) "clash") (.aE .none)) (.aE .none) (.bi .list [.ao (.var 0) "clash"]))]⟩
noncomputable def gn:Fn:=⟨2,2,[
  .cF (.bV .eq (.az (.ao (.var 0) "bank") "op" [.var 1]) (.aE (.str "app"))) [
   .ret (.az (.ao (.var 0) "bank") "args" [.var 1])] [],
  .ret (.aA [])]⟩
noncomputable def eY:Fn:=⟨2,6,[
  .a8 (.var 2) (.list [.var 1]),
  .while (.bV .gt (.bi .cQ [.var 2]) (.aE (.int 0))) [
   .a8 (.var 3) (.sub (.var 2) (.aE (.int (-1)))),
   .a8 (.var 4) (.list []),
   .cF (.bV .eW (.var 3) (.ao (.var 0) "root")) [
    .a8 (.var 4) (.comp (.var 5) 5 (.az (.var 0) "inner" [.var 3]) (U (.bV .eW (.var 5) (.ao (.var 0) "root"))))] [],
   .cF (.bV .gt (.bi .cQ [.var 4]) (.aE (.int 0))) [
    .expr (.az (.var 2) "extend" [.var 4])] [
    .expr (.az (.var 2) "pop" []),
    .cF (.bV .eW (.var 3) (.ao (.var 0) "root")) [
     .expr (.az (.var 0) "enter" [.var 3])] []]],
  .expr (.az (.var 0) "close" [])]⟩
noncomputable def ca:Fn:=⟨2,5,[
  .a8 (.sub (.ao (.var 0) "root") (.var 1)) (.var 1),
  .a8 (.sub (.ao (.var 0) "members") (.var 1)) (.list [.var 1]),
  .a8 (.sub (.ao (.var 0) "uses") (.var 1)) (.list []),
  .a8 (.sub (.ao (.var 0) "apart") (.var 1)) (.list []),
  .a8 (.sub (.ao (.var 0) "watchers") (.var 1)) (.list []),
  .a8 (.sub (.ao (.var 0) "value") (.var 1)) (.cF (.bV .dK (.az (.ao (.var 0) "bank") "op" [.var 1]) (.c5 "VALUE_OPS")) (.var 1) (.aE (.int 0))),
  .a8 (.var 2) (.comp (.sub (.ao (.var 0) "root") (.var 4)) 4 (.az (.var 0) "inner" [.var 1]) (.none)),
  .for (.var 3) (.var 2) [
   .expr (.az (.sub (.ao (.var 0) "uses") (.var 3)) "append" [.var 1])],
  .expr (.az (.ao (.var 0) "trail") "append" [.aA [.aE (.str "enter"),.var 1,.var 2]]),
  .cF (.bV .gt (.bi .cQ [.var 2]) (.aE (.int 0))) [
   .expr (.az (.var 0) "look_up" [.var 1])] []]⟩
noncomputable def ew:Fn:=⟨2,3,[
  .ret (.hQ .add (.aA [.az (.ao (.var 0) "bank") "data" [.var 1]]) (.bi .tuple [.comp (.sub (.ao (.var 0) "root") (.var 2)) 2 (.az (.ao (.var 0) "bank") "args" [.var 1]) (.none)]))]⟩
noncomputable def fq:Fn:=⟨2,4,[
  .a8 (.var 2) (.az (.var 0) "signature" [.var 1]),
  .a8 (.var 3) (.az (.ao (.var 0) "table") "get" [.var 2]),
  .cF (.bV .is (.var 3) (.aE .none)) [
   .expr (.az (.ao (.var 0) "trail") "append" [.aA [.aE (.str "table"),.var 2,.aE .none]]),
   .a8 (.sub (.ao (.var 0) "table") (.var 2)) (.var 1)] [
   .cF (.bV .ne (.sub (.ao (.var 0) "root") (.var 3)) (.sub (.ao (.var 0) "root") (.var 1))) [
    .expr (.az (.ao (.var 0) "queue") "append" [.aA [.var 1,.var 3,.c5 "BY_ARGUMENTS"]])] []]]⟩
noncomputable def gz:Fn:=⟨4,4,[
  .expr (.az (.var 0) "add_term" [.var 1]),
  .expr (.az (.var 0) "add_term" [.var 2]),
  .expr (.az (.ao (.var 0) "queue") "append" [.aA [.var 1,.var 2,.var 3]]),
  .expr (.az (.var 0) "close" [])]⟩
noncomputable def d9:Fn:=⟨1,5,[
  .a8 (.var 1) (.aE (.int 0)),
  .while (.and [.bV .lt (.var 1) (.bi .cQ [.ao (.var 0) "queue"]),.bV .is (.ao (.var 0) "clash") (.aE .none)]) [
   .a8 (.aA [.var 2,.var 3,.var 4]) (.sub (.ao (.var 0) "queue") (.var 1)),
   .a8 (.var 1) (.hQ .add (.var 1) (.aE (.int 1))),
   .cF (.bV .ne (.sub (.ao (.var 0) "root") (.var 2)) (.sub (.ao (.var 0) "root") (.var 3))) [
    .expr (.az (.var 0) "join" [.var 2,.var 3,.var 4])] []],
  .a8 (.ao (.var 0) "queue") (.list [])]⟩
noncomputable def cm:Fn:=⟨4,11,[
  .cF (.bV .gt (.bi .cQ [.sub (.ao (.var 0) "members") (.sub (.ao (.var 0) "root") (.var 1))]) (.bi .cQ [.sub (.ao (.var 0) "members") (.sub (.ao (.var 0) "root") (.var 2))])) [
   .a8 (.aA [.var 1,.var 2]) (.aA [.var 2,.var 1])] [],
  .a8 (.aA [.var 4,.var 5]) (.aA [.sub (.ao (.var 0) "root") (.var 1),.sub (.ao (.var 0) "root") (.var 2)]),
  .expr (.az (.var 0) "hang" [.var 1,.var 2,.var 3]),
  .a8 (.var 6) (.bi .list [.sub (.ao (.var 0) "uses") (.var 4)]),
  .for (.var 7) (.var 6) [
   .expr (.az (.var 0) "take_off" [.var 7])],
  .expr (.az (.ao (.var 0) "trail") "append" [.aA [.aE (.str "join"),.var 4,.var 5,.az (.var 0) "lengths" [.var 5],.sub (.ao (.var 0) "value") (.var 5)]]),
  .for (.var 7) (.sub (.ao (.var 0) "members") (.var 4)) [
   .a8 (.sub (.ao (.var 0) "root") (.var 7)) (.var 5)],
  .expr (.az (.sub (.ao (.var 0) "members") (.var 5)) "extend" [.sub (.ao (.var 0) "members") (.var 4)]),
  .expr (.az (.sub (.ao (.var 0) "uses") (.var 5)) "extend" [.sub (.ao (.var 0) "uses") (.var 4)]),
  .expr (.az (.sub (.ao (.var 0) "apart") (.var 5)) "extend" [.sub (.ao (.var 0) "apart") (.var 4)]),
  .expr (.az (.sub (.ao (.var 0) "watchers") (.var 5)) "extend" [.sub (.ao (.var 0) "watchers") (.var 4)]),
  .a8 (.aA [.var 8,.var 9]) (.aA [.sub (.ao (.var 0) "value") (.var 4),.sub (.ao (.var 0) "value") (.var 5)]),
  .cF (.bV .eq (.var 9) (.aE (.int 0))) [
   .a8 (.sub (.ao (.var 0) "value") (.var 5)) (.var 8)] [],
  .for (.var 7) (.var 6) [
   .expr (.az (.var 0) "look_up" [.var 7])],
  .a8 (.var 10) (.cF (.and [.bV .ne (.var 8) (.aE (.int 0)),.bV .ne (.var 9) (.aE (.int 0))]) (.az (.var 0) "explain" [.var 8,.var 9]) (.az (.var 0) "torn" [.var 4])),
  .cF (.bV .is (.var 10) (.aE .none)) [
   .expr (.az (.var 0) "tell_class" [.var 5])] [
   .expr (.az (.var 0) "note_clash" [.var 10])]]⟩
noncomputable def ef:Fn:=⟨2,2,[
  .a8 (.ao (.var 0) "clash") (.var 1),
  .a8 (.ao (.var 0) "clash_level") (.bi .cQ [.ao (.var 0) "marks"])]⟩
noncomputable def fh:Fn:=⟨2,2,[
  .ret (.aA [.bi .cQ [.sub (.ao (.var 0) "members") (.var 1)],.bi .cQ [.sub (.ao (.var 0) "uses") (.var 1)],.bi .cQ [.sub (.ao (.var 0) "apart") (.var 1)],.bi .cQ [.sub (.ao (.var 0) "watchers") (.var 1)]])]⟩
noncomputable def eV:Fn:=⟨2,3,[
  .a8 (.var 2) (.az (.var 0) "signature" [.var 1]),
  .cF (.bV .eq (.az (.ao (.var 0) "table") "get" [.var 2]) (.var 1)) [
   .expr (.az (.ao (.var 0) "trail") "append" [.aA [.aE (.str "table"),.var 2,.var 1]]),
   .mB (.ao (.var 0) "table") (.var 2)] []]⟩
noncomputable def gV:Fn:=⟨2,5,[
  .for (.aA [.var 2,.var 3,.var 4]) (.sub (.ao (.var 0) "apart") (.var 1)) [
   .cF (.bV .eq (.sub (.ao (.var 0) "root") (.var 2)) (.sub (.ao (.var 0) "root") (.var 3))) [
    .ret (.az (.var 0) "with_reason" [.az (.var 0) "explain" [.var 2,.var 3],.var 4])] []],
  .ret (.aE .none)]⟩
noncomputable def d3:Fn:=⟨3,3,[
  .cF (.or [.bV .eq (.var 2) (.aE (.int 0)),.bV .dK (.var 2) (.var 1)]) [
   .ret (.var 1)] [],
  .ret (.bi .sorted [.hQ .add (.var 1) (.list [.var 2])])]⟩
noncomputable def gZ:Fn:=⟨4,5,[
  .a8 (.var 4) (.az (.var 0) "turn" [.var 1]),
  .a8 (.sub (.ao (.var 0) "up") (.var 1)) (.aA [.var 2,.var 3]),
  .expr (.az (.ao (.var 0) "trail") "append" [.aA [.aE (.str "edge"),.var 1,.var 4]])]⟩
noncomputable def bP:Fn:=⟨2,6,[
  .a8 (.aA [.var 2,.var 3]) (.aA [.list [],.var 1]),
  .while (.bV .dK (.var 3) (.ao (.var 0) "up")) [
   .a8 (.var 4) (.sub (.ao (.var 0) "up") (.var 3)),
   .expr (.az (.var 2) "append" [.aA [.var 3,.var 4]]),
   .a8 (.var 3) (.sub (.var 4) (.aE (.int 0)))],
  .for (.aA [.var 5,.var 4]) (.var 2) [
   .mB (.ao (.var 0) "up") (.var 5)],
  .for (.aA [.var 5,.var 4]) (.var 2) [
   .a8 (.sub (.ao (.var 0) "up") (.sub (.var 4) (.aE (.int 0)))) (.aA [.var 5,.sub (.var 4) (.aE (.int 1))])],
  .ret (.var 3)]⟩
noncomputable def bo:Fn:=⟨3,7,[
  .a8 (.aA [.var 3,.var 4,.var 5]) (.aA [.list [.var 1],.dict [.var 1] [.aE (.int 0)],.var 1]),
  .while (.bV .dK (.var 5) (.ao (.var 0) "up")) [
   .a8 (.var 5) (.sub (.sub (.ao (.var 0) "up") (.var 5)) (.aE (.int 0))),
   .a8 (.sub (.var 4) (.var 5)) (.bi .cQ [.var 3]),
   .expr (.az (.var 3) "append" [.var 5])],
  .a8 (.aA [.var 6,.var 5]) (.aA [.list [],.var 2]),
  .while (.bV .eW (.var 5) (.var 4)) [
   .expr (.az (.var 6) "append" [.var 5]),
   .a8 (.var 5) (.sub (.sub (.ao (.var 0) "up") (.var 5)) (.aE (.int 0)))],
  .ret (.hQ .add (.gj (.var 3) (.sub (.var 4) (.var 5))) (.var 6))]⟩
noncomputable def cM:Fn:=⟨3,11,[
  .cF (.bV .ne (.sub (.ao (.var 0) "root") (.var 1)) (.sub (.ao (.var 0) "root") (.var 2))) [
   .raise] [],
  .a8 (.aA [.var 3,.var 4,.var 5]) (.aA [.list [.aA [.var 1,.var 2]],.dict [] [],.dict [] []]),
  .while (.bV .gt (.bi .cQ [.var 3]) (.aE (.int 0))) [
   .a8 (.aA [.var 6,.var 7]) (.az (.var 3) "pop" []),
   .for (.var 8) (.az (.var 0) "edges_between" [.var 6,.var 7]) [
    .cF (.bV .eW (.var 8) (.var 4)) [
     .a8 (.sub (.var 4) (.var 8)) (.aE (.bool true)),
     .a8 (.aA [.var 9,.var 10]) (.sub (.ao (.var 0) "up") (.var 8)),
     .cF (.bV .eq (.var 10) (.c5 "BY_ARGUMENTS")) [
      .expr (.az (.var 3) "extend" [.bi .e6 [.az (.ao (.var 0) "bank") "args" [.var 8],.az (.ao (.var 0) "bank") "args" [.var 9]]])] [
      .cF (.bV .ne (.var 10) (.aE (.int 0))) [
       .a8 (.sub (.var 5) (.var 10)) (.aE (.bool true))] []]] []]],
  .ret (.bi .sorted [.bi .list [.var 5]])]⟩
noncomputable def eU:Fn:=⟨4,6,[
  .expr (.az (.var 0) "add_term" [.var 1]),
  .expr (.az (.var 0) "add_term" [.var 2]),
  .cF (.bV .mW (.ao (.var 0) "clash") (.aE .none)) [
   .ret (.aE .none)] [],
  .a8 (.aA [.var 4,.var 5]) (.aA [.sub (.ao (.var 0) "root") (.var 1),.sub (.ao (.var 0) "root") (.var 2)]),
  .cF (.bV .eq (.var 4) (.var 5)) [
   .expr (.az (.var 0) "note_clash" [.az (.var 0) "with_reason" [.az (.var 0) "explain" [.var 1,.var 2],.var 3]]),
   .ret (.aE .none)] [],
  .expr (.az (.sub (.ao (.var 0) "apart") (.var 4)) "append" [.aA [.var 1,.var 2,.var 3]]),
  .expr (.az (.sub (.ao (.var 0) "apart") (.var 5)) "append" [.aA [.var 1,.var 2,.var 3]]),
  .expr (.az (.ao (.var 0) "trail") "append" [.aA [.aE (.str "apart"),.var 4,.var 5]]),
  .expr (.az (.var 0) "tell_class" [.var 4])]⟩
noncomputable def c4:Fn:=⟨3,6,[
  .for (.aA [.var 3,.var 4,.var 5]) (.sub (.ao (.var 0) "apart") (.var 1)) [
   .cF (.and [.bV .eq (.sub (.ao (.var 0) "root") (.var 3)) (.var 1),.bV .eq (.sub (.ao (.var 0) "root") (.var 4)) (.var 2)]) [
    .ret (.aA [.var 3,.var 4,.var 5])] [],
   .cF (.and [.bV .eq (.sub (.ao (.var 0) "root") (.var 3)) (.var 2),.bV .eq (.sub (.ao (.var 0) "root") (.var 4)) (.var 1)]) [
    .ret (.aA [.var 4,.var 3,.var 5])] []],
  .ret (.aE .none)]⟩
noncomputable def dv:Fn:=⟨4,7,[
  .a8 (.aA [.var 4,.var 5,.var 6]) (.var 3),
  .ret (.az (.var 0) "with_reason" [.az (.var 0) "joined" [.az (.var 0) "explain" [.var 1,.var 4],.az (.var 0) "explain" [.var 2,.var 5]],.var 6])]⟩
noncomputable def fH:Fn:=⟨3,4,[
  .ret (.bi .sorted [.hQ .add (.var 1) (.comp (.var 3) 3 (.var 2) (U (.bV .eW (.var 3) (.var 1))))])]⟩
noncomputable def gD:Fn:=⟨2,4,[
  .cF (.bV .dK (.var 1) (.ao (.var 0) "sides")) [
   .ret (.aE .none)] [],
  .a8 (.aA [.var 2,.var 3]) (.aA [.var 1,.az (.ao (.var 0) "bank") "true_term" []]),
  .cF (.bV .eq (.az (.ao (.var 0) "bank") "op" [.var 1]) (.aE (.str "="))) [
   .a8 (.aA [.var 2,.var 3]) (.az (.ao (.var 0) "bank") "args" [.var 1])] [],
  .expr (.az (.var 0) "add_term" [.var 2]),
  .expr (.az (.var 0) "add_term" [.var 3]),
  .expr (.az (.var 0) "place_watch" [.var 1,.var 2,.var 3])]⟩
noncomputable def dW:Fn:=⟨4,6,[
  .a8 (.aA [.var 4,.var 5]) (.aA [.sub (.ao (.var 0) "root") (.var 2),.sub (.ao (.var 0) "root") (.var 3)]),
  .a8 (.sub (.ao (.var 0) "sides") (.var 1)) (.aA [.var 2,.var 3]),
  .expr (.az (.sub (.ao (.var 0) "watchers") (.var 4)) "append" [.var 1]),
  .cF (.bV .ne (.var 4) (.var 5)) [
   .expr (.az (.sub (.ao (.var 0) "watchers") (.var 5)) "append" [.var 1])] [],
  .expr (.az (.ao (.var 0) "trail") "append" [.aA [.aE (.str "watch"),.var 1,.var 4,.var 5]]),
  .expr (.az (.var 0) "tell" [.var 1])]⟩
noncomputable def ee:Fn:=⟨2,3,[
  .for (.var 2) (.sub (.ao (.var 0) "watchers") (.var 1)) [
   .expr (.az (.var 0) "tell" [.var 2])]]⟩
noncomputable def gL:Fn:=⟨2,5,[
  .cF (.bV .dK (.var 1) (.ao (.var 0) "told")) [
   .ret (.aE .none)] [],
  .a8 (.aA [.var 2,.var 3]) (.sub (.ao (.var 0) "sides") (.var 1)),
  .cF (.az (.var 0) "are_equal" [.var 2,.var 3]) [
   .a8 (.sub (.ao (.var 0) "told") (.var 1)) (.aA [.aE (.int 1),.aE .none])] [
   .a8 (.var 4) (.az (.var 0) "cause_apart" [.var 2,.var 3]),
   .cF (.bV .is (.var 4) (.aE .none)) [
    .ret (.aE .none)] [],
   .a8 (.sub (.ao (.var 0) "told") (.var 1)) (.aA [.aE (.int (-1)),.var 4])],
  .expr (.az (.ao (.var 0) "news") "append" [.var 1]),
  .expr (.az (.ao (.var 0) "trail") "append" [.aA [.aE (.str "told"),.var 1]])]⟩
noncomputable def fm:Fn:=⟨1,4,[
  .a8 (.aA [.var 1,.var 2]) (.aA [.list [],.dict [] []]),
  .for (.var 3) (.ao (.var 0) "news") [
   .cF (.and [.bV .dK (.var 3) (.ao (.var 0) "told"),.bV .eW (.var 3) (.var 2)]) [
    .a8 (.sub (.var 2) (.var 3)) (.aE (.bool true)),
    .expr (.az (.var 1) "append" [.aA [.var 3,.sub (.sub (.ao (.var 0) "told") (.var 3)) (.aE (.int 0))]])] []],
  .a8 (.ao (.var 0) "news") (.list []),
  .ret (.var 1)]⟩
noncomputable def dT:Fn:=⟨2,6,[
  .a8 (.aA [.var 2,.var 3]) (.sub (.ao (.var 0) "sides") (.var 1)),
  .a8 (.aA [.var 4,.var 5]) (.sub (.ao (.var 0) "told") (.var 1)),
  .cF (.bV .eq (.var 4) (.aE (.int 1))) [
   .ret (.az (.var 0) "explain" [.var 2,.var 3])] [],
  .ret (.az (.var 0) "explain_cause" [.var 2,.var 3,.var 5])]⟩
noncomputable def et:Fn:=⟨1,1,[
  .expr (.az (.ao (.var 0) "marks") "append" [.bi .cQ [.ao (.var 0) "trail"]])]⟩
noncomputable def cT:Fn:=⟨2,9,[
  .cF (.bV .le (.var 1) (.aE (.int 0))) [
   .ret (.aE .none)] [],
  .a8 (.var 2) (.sub (.ao (.var 0) "marks") (.hQ .sub (.bi .cQ [.ao (.var 0) "marks"]) (.var 1))),
  .a8 (.ao (.var 0) "marks") (.gj (.ao (.var 0) "marks") (.hQ .sub (.bi .cQ [.ao (.var 0) "marks"]) (.var 1))),
  .a8 (.aA [.var 3,.var 4]) (.aA [.list [],.list []]),
  .while (.bV .gt (.bi .cQ [.ao (.var 0) "trail"]) (.var 2)) [
   .expr (.az (.var 0) "undo" [.az (.ao (.var 0) "trail") "pop" [],.var 3,.var 4])],
  .a8 (.ao (.var 0) "queue") (.list []),
  .cF (.and [.bV .mW (.ao (.var 0) "clash") (.aE .none),.bV .lt (.bi .cQ [.ao (.var 0) "marks"]) (.ao (.var 0) "clash_level")]) [
   .a8 (.ao (.var 0) "clash") (.aE .none)] [],
  .a8 (.ao (.var 0) "news") (.comp (.var 8) 8 (.ao (.var 0) "news") (U (.bV .dK (.var 8) (.ao (.var 0) "told")))),
  .for (.var 5) (.EY (.var 3)) [
   .expr (.az (.var 0) "enter" [.var 5])],
  .expr (.az (.var 0) "close" []),
  .for (.aA [.var 5,.var 6,.var 7]) (.EY (.var 4)) [
   .expr (.az (.var 0) "place_watch" [.var 5,.var 6,.var 7])]]⟩
noncomputable def g1:Fn:=⟨4,7,[
  .a8 (.var 4) (.sub (.var 1) (.aE (.int 0))),
  .cF (.bV .eq (.var 4) (.aE (.str "enter"))) [
   .expr (.az (.var 0) "leave" [.sub (.var 1) (.aE (.int 1)),.sub (.var 1) (.aE (.int 2))]),
   .expr (.az (.var 2) "append" [.sub (.var 1) (.aE (.int 1))])] [
   .cF (.bV .eq (.var 4) (.aE (.str "table"))) [
    .cF (.bV .is (.sub (.var 1) (.aE (.int 2))) (.aE .none)) [
     .mB (.ao (.var 0) "table") (.sub (.var 1) (.aE (.int 1)))] [
     .a8 (.sub (.ao (.var 0) "table") (.sub (.var 1) (.aE (.int 1)))) (.sub (.var 1) (.aE (.int 2)))]] [
    .cF (.bV .eq (.var 4) (.aE (.str "join"))) [
     .expr (.az (.var 0) "part" [.sub (.var 1) (.aE (.int 1)),.sub (.var 1) (.aE (.int 2)),.sub (.var 1) (.aE (.int 3)),.sub (.var 1) (.aE (.int 4))])] [
     .cF (.bV .eq (.var 4) (.aE (.str "edge"))) [
      .mB (.ao (.var 0) "up") (.sub (.var 1) (.aE (.int 1))),
      .expr (.az (.var 0) "turn" [.sub (.var 1) (.aE (.int 2))])] [
      .cF (.bV .eq (.var 4) (.aE (.str "apart"))) [
       .expr (.az (.sub (.ao (.var 0) "apart") (.sub (.var 1) (.aE (.int 1)))) "pop" []),
       .expr (.az (.sub (.ao (.var 0) "apart") (.sub (.var 1) (.aE (.int 2)))) "pop" [])] [
       .cF (.bV .eq (.var 4) (.aE (.str "watch"))) [
        .a8 (.aA [.var 5,.var 6]) (.sub (.ao (.var 0) "sides") (.sub (.var 1) (.aE (.int 1)))),
        .expr (.az (.var 3) "append" [.aA [.sub (.var 1) (.aE (.int 1)),.var 5,.var 6]]),
        .expr (.az (.var 0) "unwatch" [.sub (.var 1) (.aE (.int 1)),.sub (.var 1) (.aE (.int 2)),.sub (.var 1) (.aE (.int 3))])] [
        .mB (.ao (.var 0) "told") (.sub (.var 1) (.aE (.int 1)))]]]]]]]⟩
noncomputable def gp:Fn:=⟨3,5,[
  .for (.var 3) (.var 2) [
   .expr (.az (.sub (.ao (.var 0) "uses") (.var 3)) "pop" [])],
  .for (.var 4) (.aA [.ao (.var 0) "root",.ao (.var 0) "members",.ao (.var 0) "uses",.ao (.var 0) "value",.ao (.var 0) "apart",.ao (.var 0) "watchers"]) [
   .mB (.var 4) (.var 1)]]⟩
noncomputable def gU:Fn:=⟨5,6,[
  .a8 (.sub (.ao (.var 0) "members") (.var 2)) (.gj (.sub (.ao (.var 0) "members") (.var 2)) (.sub (.var 3) (.aE (.int 0)))),
  .a8 (.sub (.ao (.var 0) "uses") (.var 2)) (.gj (.sub (.ao (.var 0) "uses") (.var 2)) (.sub (.var 3) (.aE (.int 1)))),
  .a8 (.sub (.ao (.var 0) "apart") (.var 2)) (.gj (.sub (.ao (.var 0) "apart") (.var 2)) (.sub (.var 3) (.aE (.int 2)))),
  .a8 (.sub (.ao (.var 0) "watchers") (.var 2)) (.gj (.sub (.ao (.var 0) "watchers") (.var 2)) (.sub (.var 3) (.aE (.int 3)))),
  .a8 (.sub (.ao (.var 0) "value") (.var 2)) (.var 4),
  .for (.var 5) (.sub (.ao (.var 0) "members") (.var 1)) [
   .a8 (.sub (.ao (.var 0) "root") (.var 5)) (.var 1)]]⟩
noncomputable def fg:Fn:=⟨4,4,[
  .expr (.az (.sub (.ao (.var 0) "watchers") (.var 2)) "pop" []),
  .cF (.bV .ne (.var 2) (.var 3)) [
   .expr (.az (.sub (.ao (.var 0) "watchers") (.var 3)) "pop" [])] [],
  .mB (.ao (.var 0) "sides") (.var 1)]⟩
noncomputable def iM:Fn:=⟨1,1,[
  .a8 (.ao (.var 0) "sort_names") (.list [.aE (.str "Bool"),.aE (.str "Int"),.aE (.str "Real")]),
  .a8 (.ao (.var 0) "sort_widths") (.list [.aE (.int 0),.aE (.int 0),.aE (.int 0)]),
  .a8 (.ao (.var 0) "fun_names") (.list []),
  .a8 (.ao (.var 0) "fun_args") (.list []),
  .a8 (.ao (.var 0) "fun_results") (.list []),
  .a8 (.ao (.var 0) "fresh_count") (.aE (.int 0)),
  .a8 (.ao (.var 0) "term_ops") (.list [.aE (.str "")]),
  .a8 (.ao (.var 0) "term_args") (.list [.aA []]),
  .a8 (.ao (.var 0) "term_sorts") (.list [.c5 "BOOL"]),
  .a8 (.ao (.var 0) "term_datas") (.list [.aE (.int 0)]),
  .a8 (.ao (.var 0) "numbers") (.dict [] []),
  .a8 (.ao (.var 0) "true_number") (.az (.var 0) "make" [.aE (.str "true"),.aA [],.c5 "BOOL",.aE (.int 0)]),
  .a8 (.ao (.var 0) "false_number") (.az (.var 0) "make" [.aE (.str "false"),.aA [],.c5 "BOOL",.aE (.int 0)])]⟩
noncomputable def d7:Fn:=⟨4,4,[
  .expr (.az (.ao (.var 0) "fun_names") "append" [.var 1]),
  .expr (.az (.ao (.var 0) "fun_args") "append" [.bi .tuple [.var 2]]),
  .expr (.az (.ao (.var 0) "fun_results") "append" [.var 3]),
  .ret (.hQ .sub (.bi .cQ [.ao (.var 0) "fun_names"]) (.aE (.int 1)))]⟩
noncomputable def d8:Fn:=⟨3,3,[
  .ret (.az (.var 0) "make" [.aE (.str "app"),.aA [],.var 2,.az (.var 0) "declare_fun" [.var 1,.aA [],.var 2]])]⟩
noncomputable def qv:Fn:=⟨2,2,[
  .ret (.sub (.ao (.var 0) "term_ops") (.var 1))]⟩
noncomputable def lG:Fn:=⟨2,2,[
  .ret (.sub (.ao (.var 0) "term_args") (.var 1))]⟩
noncomputable def lY:Fn:=⟨2,2,[
  .ret (.sub (.ao (.var 0) "term_sorts") (.var 1))]⟩
noncomputable def lQ:Fn:=⟨2,2,[
  .ret (.sub (.ao (.var 0) "term_datas") (.var 1))]⟩
noncomputable def lX:Fn:=⟨5,7,[
  .a8 (.var 5) (.aA [.var 1,.var 2,.var 3,.var 4]),
  .a8 (.var 6) (.az (.ao (.var 0) "numbers") "get" [.var 5,.aE (.int 0)]),
  .cF (.bV .eq (.var 6) (.aE (.int 0))) [
   .a8 (.var 6) (.bi .cQ [.ao (.var 0) "term_ops"]),
   .expr (.az (.ao (.var 0) "term_ops") "append" [.var 1]),
   .expr (.az (.ao (.var 0) "term_args") "append" [.var 2]),
   .expr (.az (.ao (.var 0) "term_sorts") "append" [.var 3]),
   .expr (.az (.ao (.var 0) "term_datas") "append" [.var 4]),
   .a8 (.sub (.ao (.var 0) "numbers") (.var 5)) (.var 6)] [],
  .ret (.var 6)]⟩
noncomputable def hJ:Fn:=⟨1,1,[
  .ret (.ao (.var 0) "true_number")]⟩
noncomputable def oE:Fn:=⟨2,3,[
  .a8 (.var 2) (.sub (.var 0) (.aE (.str "spot"))),
  .a8 (.sub (.var 0) (.aE (.str "spot"))) (.hQ .add (.var 2) (.aE (.int 1))),
  .cF (.bV .lt (.var 2) (.bi .cQ [.sub (.var 0) (.aE (.str "cells"))])) [
   .ret (.hQ .Cy (.bi .int [.sub (.sub (.var 0) (.aE (.str "cells"))) (.var 2)]) (.var 1))] [],
  .ret (.hQ .Cy (.hQ .Cy (.bi .int [.hQ .add (.hQ .add (.hQ .mul (.hQ .mul (.aE (.int 11)) (.var 2)) (.var 2)) (.hQ .mul (.aE (.int 5)) (.var 2))) (.hQ .mul (.aE (.int 3)) (.bi .cQ [.sub (.var 0) (.aE (.str "cells"))]))]) (.aE (.int 89))) (.var 1))]⟩
noncomputable def lV:Fn:=⟨1,7,[
  .a8 (.var 1) (.az (.var 0) "declare_fun" [.aE (.str "f"),.aA [.c5 "INT"],.c5 "INT"]),
  .a8 (.var 2) (.comp (.az (.var 0) "fresh_const" [.var 6,.c5 "INT"]) 6 (.aA [.aE (.str "a"),.aE (.str "b"),.aE (.str "c"),.aE (.str "d")]) (.none)),
  .a8 (.var 2) (.hQ .add (.var 2) (.list [.az (.var 0) "make" [.aE (.str "num"),.aA [],.c5 "INT",.aA [.aE (.int 0),.aE (.int 1)]],.az (.var 0) "make" [.aE (.str "num"),.aA [],.c5 "INT",.aA [.aE (.int 1),.aE (.int 1)]]])),
  .a8 (.var 3) (.dict [] []),
  .for (.var 4) (.bi .range [.aE (.int 3)]) [
   .a8 (.var 5) (.az (.var 0) "make" [.aE (.str "app"),.aA [.sub (.var 2) (.var 4)],.c5 "INT",.var 1]),
   .a8 (.sub (.var 3) (.var 5)) (.sub (.var 2) (.var 4)),
   .expr (.az (.var 2) "append" [.var 5])],
  .ret (.aA [.var 2,.var 3])]⟩
noncomputable def c1:Fn:=⟨3,16,[
  .a8 (.var 3) (.dict [] []),
  .for (.var 4) (.bi .range [.bi .cQ [.var 0]]) [
   .a8 (.sub (.var 3) (.sub (.var 0) (.var 4))) (.var 4)],
  .a8 (.var 5) (.comp (.aA [.sub (.var 14) (.aE (.int 1)),.sub (.var 14) (.aE (.int 2))]) 14 (.var 2) (U (.bV .eq (.sub (.var 14) (.aE (.int 0))) (.aE (.str "tie"))))),
  .a8 (.var 6) (.aE (.bool true)),
  .while (.var 6) [
   .a8 (.var 6) (.aE (.bool false)),
   .a8 (.var 7) (.comp (.var 15) 15 (.var 0) (U (.bV .dK (.var 15) (.var 1)))),
   .for (.var 8) (.bi .range [.bi .cQ [.var 7]]) [
    .for (.var 4) (.bi .range [.var 8]) [
     .cF (.bV .eq (.sub (.var 3) (.sub (.var 1) (.sub (.var 7) (.var 8)))) (.sub (.var 3) (.sub (.var 1) (.sub (.var 7) (.var 4))))) [
      .expr (.az (.var 5) "append" [.aA [.sub (.var 7) (.var 8),.sub (.var 7) (.var 4)]])] []]],
   .for (.aA [.var 9,.var 10]) (.var 5) [
    .a8 (.aA [.var 11,.var 12]) (.aA [.sub (.var 3) (.var 9),.sub (.var 3) (.var 10)]),
    .cF (.bV .ne (.var 11) (.var 12)) [
     .a8 (.var 6) (.aE (.bool true)),
     .for (.var 13) (.var 0) [
      .cF (.bV .eq (.sub (.var 3) (.var 13)) (.var 11)) [
       .a8 (.sub (.var 3) (.var 13)) (.var 12)] []]] []],
   .a8 (.var 5) (.list [])],
  .ret (.var 3)]⟩
noncomputable def iX:Fn:=⟨5,10,[
  .a8 (.var 5) (.bi .sorted [.list [.sub (.var 2) (.var 3),.sub (.var 2) (.var 4)]]),
  .a8 (.var 6) (.list [.aA [.sub (.sub (.var 0) (.aE (.str "some"))) (.aE (.int 4)),.sub (.sub (.var 0) (.aE (.str "some"))) (.aE (.int 5))]]),
  .a8 (.var 6) (.hQ .add (.var 6) (.comp (.aA [.sub (.var 9) (.aE (.int 1)),.sub (.var 9) (.aE (.int 2))]) 9 (.var 1) (U (.bV .eq (.sub (.var 9) (.aE (.int 0))) (.aE (.str "part")))))),
  .for (.aA [.var 7,.var 8]) (.var 6) [
   .cF (.and [.bV .eq (.bi .sorted [.list [.sub (.var 2) (.var 7),.sub (.var 2) (.var 8)]]) (.var 5),.bV .ne (.sub (.var 5) (.aE (.int 0))) (.sub (.var 5) (.aE (.int 1)))]) [
    .ret (.aE (.bool true))] []],
  .ret (.aE (.bool false))]⟩
noncomputable def iv:Fn:=⟨1,3,[
  .a8 (.var 1) (.list []),
  .for (.var 2) (.sub (.var 0) (.aE (.str "levels"))) [
   .a8 (.var 1) (.hQ .add (.var 1) (.var 2))],
  .ret (.var 1)]⟩
noncomputable def jK:Fn:=⟨3,7,[
  .a8 (.var 3) (.list [.aA [.sub (.sub (.var 0) (.aE (.str "some"))) (.aE (.int 4)),.sub (.sub (.var 0) (.aE (.str "some"))) (.aE (.int 5))]]),
  .a8 (.var 3) (.hQ .add (.var 3) (.comp (.aA [.sub (.var 6) (.aE (.int 1)),.sub (.var 6) (.aE (.int 2))]) 6 (.var 1) (U (.bV .eq (.sub (.var 6) (.aE (.int 0))) (.aE (.str "part")))))),
  .for (.aA [.var 4,.var 5]) (.var 3) [
   .cF (.bV .eq (.sub (.var 2) (.var 4)) (.sub (.var 2) (.var 5))) [
    .ret (.aE (.bool true))] []],
  .ret (.aE (.bool false))]⟩
noncomputable def jE:Fn:=⟨6,10,[
  .cF (.or [.not (.bi .hg [.var 1]),.bV .ne (.var 1) (.bi .sorted [.var 1])]) [
   .ret (.aE (.bool false))] [],
  .for (.var 6) (.bi .range [.bi .cQ [.var 1]]) [
   .cF (.or [.bV .eW (.sub (.var 1) (.var 6)) (.var 2),.bV .dK (.sub (.var 1) (.var 6)) (.gj (.var 1) (.var 6))]) [
    .ret (.aE (.bool false))] []],
  .a8 (.var 7) (.comp (.var 9) 9 (.call "_law_standing" [.var 0]) (U (.bV .dK (.sub (.var 9) (.aE (.int 3))) (.var 1)))),
  .a8 (.var 8) (.call "_law_closed" [.sub (.var 0) (.aE (.str "some")),.sub (.var 0) (.aE (.str "inner")),.var 7]),
  .cF (.bV .eq (.var 5) (.aE (.int 1))) [
   .ret (.bV .eq (.sub (.var 8) (.var 3)) (.sub (.var 8) (.var 4)))] [],
  .ret (.call "_law_is_apart" [.var 0,.var 7,.var 8,.var 3,.var 4])]⟩
noncomputable def gW:Fn:=⟨4,10,[
  .a8 (.var 4) (.bi .cQ [.sub (.var 0) (.aE (.str "levels"))]),
  .for (.aA [.var 5,.var 6]) (.az (.var 1) "implied" []) [
   .cF (.or [.bV .eW (.var 5) (.sub (.var 0) (.aE (.str "watched"))),.bV .dK (.var 5) (.sub (.var 0) (.aE (.str "told")))]) [
    .ret (.aE (.bool false))] [],
   .a8 (.sub (.sub (.var 0) (.aE (.str "told"))) (.var 5)) (.aA [.var 6,.var 3,.var 4])],
  .a8 (.var 7) (.sub (.var 0) (.aE (.str "some"))),
  .for (.var 8) (.bi .range [.bi .cQ [.var 7]]) [
   .for (.var 9) (.bi .range [.var 8]) [
    .cF (.and [.bV .eq (.sub (.var 2) (.sub (.var 7) (.var 8))) (.sub (.var 2) (.sub (.var 7) (.var 9))),.bV .eW (.aA [.var 8,.var 9]) (.sub (.var 0) (.aE (.str "equal")))]) [
     .a8 (.sub (.sub (.var 0) (.aE (.str "equal"))) (.aA [.var 8,.var 9])) (.aA [.var 3,.var 4])] []]],
  .ret (.aE (.bool true))]⟩
noncomputable def er:Fn:=⟨3,12,[
  .for (.var 3) (.bi .sorted [.sub (.var 0) (.aE (.str "told"))]) [
   .a8 (.aA [.var 4,.var 5,.var 6]) (.sub (.sub (.var 0) (.aE (.str "told"))) (.var 3)),
   .a8 (.aA [.var 7,.var 8]) (.sub (.sub (.var 0) (.aE (.str "watched"))) (.var 3)),
   .cF (.not (.call "_law_is_good" [.var 0,.az (.var 1) "explain_told" [.var 3],.var 5,.var 7,.var 8,.var 4])) [
    .ret (.aE (.bool false))] []],
  .a8 (.var 9) (.bi .sorted [.sub (.var 0) (.aE (.str "equal"))]),
  .cF (.bV .ne (.var 9) (.list [])) [
   .a8 (.aA [.var 10,.var 11]) (.sub (.var 9) (.hQ .Cy (.var 2) (.bi .cQ [.var 9]))),
   .a8 (.aA [.var 7,.var 8]) (.aA [.sub (.sub (.var 0) (.aE (.str "some"))) (.var 10),.sub (.sub (.var 0) (.aE (.str "some"))) (.var 11)]),
   .ret (.call "_law_is_good" [.var 0,.az (.var 1) "explain" [.var 7,.var 8],.sub (.sub (.sub (.var 0) (.aE (.str "equal"))) (.aA [.var 10,.var 11])) (.aE (.int 0)),.var 7,.var 8,.aE (.int 1)])] [],
  .ret (.aE (.bool true))]⟩
noncomputable def bq:Fn:=⟨3,8,[
  .expr (.az (.var 1) "pop_levels" [.var 2]),
  .a8 (.sub (.var 0) (.aE (.str "levels"))) (.gj (.sub (.var 0) (.aE (.str "levels"))) (.hQ .sub (.bi .cQ [.sub (.var 0) (.aE (.str "levels"))]) (.var 2))),
  .a8 (.var 3) (.bi .cQ [.sub (.var 0) (.aE (.str "levels"))]),
  .a8 (.aA [.var 4,.var 5]) (.aA [.dict [] [],.dict [] []]),
  .for (.var 6) (.sub (.var 0) (.aE (.str "told"))) [
   .cF (.bV .le (.sub (.sub (.sub (.var 0) (.aE (.str "told"))) (.var 6)) (.aE (.int 2))) (.var 3)) [
    .a8 (.sub (.var 4) (.var 6)) (.sub (.sub (.var 0) (.aE (.str "told"))) (.var 6))] []],
  .for (.var 7) (.sub (.var 0) (.aE (.str "equal"))) [
   .cF (.bV .le (.sub (.sub (.sub (.var 0) (.aE (.str "equal"))) (.var 7)) (.aE (.int 1))) (.var 3)) [
    .a8 (.sub (.var 5) (.var 7)) (.sub (.sub (.var 0) (.aE (.str "equal"))) (.var 7))] []],
  .a8 (.aA [.sub (.var 0) (.aE (.str "told")),.sub (.var 0) (.aE (.str "equal"))]) (.aA [.var 4,.var 5])]⟩
noncomputable def oA:Fn:=⟨6,6,[
  .cF (.bV .lt (.var 2) (.aE (.int 4))) [
   .expr (.az (.sub (.sub (.var 0) (.aE (.str "levels"))) (.aE (.int (-1)))) "append" [.aA [.aE (.str "tie"),.var 3,.var 4,.var 5]]),
   .expr (.az (.var 1) "merge" [.var 3,.var 4,.var 5])] [
   .cF (.and [.bV .lt (.var 2) (.aE (.int 6)),.bV .ne (.var 3) (.var 4)]) [
    .expr (.az (.sub (.sub (.var 0) (.aE (.str "levels"))) (.aE (.int (-1)))) "append" [.aA [.aE (.str "part"),.var 3,.var 4,.var 5]]),
    .expr (.az (.var 1) "separate" [.var 3,.var 4,.var 5])] [
    .cF (.bV .eq (.var 2) (.aE (.int 6))) [
     .expr (.az (.sub (.var 0) (.aE (.str "levels"))) "append" [.list []]),
     .expr (.az (.var 1) "push_level" [])] [
     .cF (.and [.bV .eq (.var 2) (.aE (.int 7)),.bV .gt (.bi .cQ [.sub (.var 0) (.aE (.str "levels"))]) (.aE (.int 1))]) [
      .expr (.call "_law_taken_back" [.var 0,.var 1,.hQ .add (.aE (.int 1)) (.hQ .Cy (.bi .int [.var 3]) (.hQ .sub (.bi .cQ [.sub (.var 0) (.aE (.str "levels"))]) (.aE (.int 1))))])] []]]]]⟩
noncomputable def ha:Fn:=⟨4,9,[
  .a8 (.var 4) (.sub (.var 1) (.aE (.str "some"))),
  .for (.var 5) (.bi .range [.aE (.int 3)]) [
   .a8 (.aA [.var 6,.var 7]) (.aA [.sub (.var 4) (.call "_law_next" [.var 0,.aE (.int 9)]),.sub (.var 4) (.call "_law_next" [.var 0,.aE (.int 9)])]),
   .cF (.bV .ne (.var 6) (.var 7)) [
    .a8 (.var 8) (.az (.var 3) "make" [.aE (.str "="),.aA [.bi .min [.var 6,.var 7],.bi .max [.var 6,.var 7]],.c5 "BOOL",.aE (.int 0)]),
    .a8 (.sub (.sub (.var 1) (.aE (.str "watched"))) (.var 8)) (.aA [.var 6,.var 7]),
    .expr (.az (.var 2) "watch" [.var 8])] []]]⟩
noncomputable def lK:Fn:=⟨1,17,[
  .a8 (.var 1) (.dict [.str "cells",.str "spot"] [.bi .list [.gj (.var 0) (.aE (.int 50))],.aE (.int 0)]),
  .a8 (.aA [.var 2,.var 3]) (.aA [.new "Bank" [],.hQ .add (.aE (.int 1)) (.call "_law_next" [.var 1,.aE (.int 9)])]),
  .a8 (.aA [.var 4,.var 5]) (.call "_law_terms" [.var 2]),
  .a8 (.var 6) (.new "Congruence" [.var 2]),
  .a8 (.var 7) (.dict [.str "some",.str "inner",.str "levels",.str "watched",.str "told",.str "equal"] [.var 4,.var 5,.list [.list []],.dict [] [],.dict [] [],.dict [] []]),
  .for (.var 8) (.var 4) [
   .expr (.az (.var 6) "add_term" [.var 8])],
  .expr (.call "_law_watched" [.var 1,.var 7,.var 6,.var 2]),
  .for (.var 9) (.bi .range [.var 3]) [
   .a8 (.aA [.var 10,.var 11,.var 12]) (.aA [.call "_law_next" [.var 1,.aE (.int 8)],.sub (.var 4) (.call "_law_next" [.var 1,.aE (.int 9)]),.sub (.var 4) (.call "_law_next" [.var 1,.aE (.int 9)])]),
   .a8 (.var 13) (.hQ .mul (.hQ .add (.var 9) (.aE (.int 2))) (.hQ .sub (.aE (.int 1)) (.hQ .mul (.aE (.int 2)) (.call "_law_next" [.var 1,.aE (.int 2)])))),
   .expr (.call "_law_done" [.var 7,.var 6,.var 10,.var 11,.var 12,.var 13]),
   .a8 (.var 14) (.call "_law_standing" [.var 7]),
   .a8 (.var 15) (.call "_law_closed" [.var 4,.var 5,.var 14]),
   .cF (.call "_law_clashes" [.var 7,.var 14,.var 15]) [
    .cF (.bV .is (.az (.var 6) "conflict" []) (.aE .none)) [
     .ret (.aE (.bool false))] [],
    .cF (.bV .eq (.bi .cQ [.sub (.var 7) (.aE (.str "levels"))]) (.aE (.int 1))) [
     .ret (.aE (.bool true))] [],
    .expr (.call "_law_taken_back" [.var 7,.var 6,.aE (.int 1)]),
    .a8 (.var 14) (.call "_law_standing" [.var 7]),
    .a8 (.var 15) (.call "_law_closed" [.var 4,.var 5,.var 14])] [],
   .cF (.or [.bV .mW (.az (.var 6) "conflict" []) (.aE .none),.not (.call "_law_noted" [.var 7,.var 6,.var 15,.comp (.sub (.var 16) (.aE (.int 3))) 16 (.var 14) (.none)])]) [
    .ret (.aE (.bool false))] [],
   .cF (.not (.call "_law_asked" [.var 7,.var 6,.var 9])) [
    .ret (.aE (.bool false))] []],
  .ret (.aE (.bool true))]⟩
noncomputable def bu:List (String×Fn×List String):=[
 ("Congruence.__init__",gN,["self","bank"]),
 ("Congruence.are_equal",eG,["self","a","b"]),
 ("Congruence.cause_apart",d4,["self","a","b","one","other"]),
 ("Congruence.classes",fp,["self","found","t"]),
 ("Congruence.conflict",eX,["self"]),
 ("Congruence.inner",gn,["self","t"]),
 ("Congruence.add_term",eY,["self","t","stack","here","missing"]),
 ("Congruence.enter",ca,["self","t","homes","home"]),
 ("Congruence.signature",ew,["self","t"]),
 ("Congruence.look_up",fq,["self","t","mark","other"]),
 ("Congruence.merge",gz,["self","a","b","reason"]),
 ("Congruence.close",d9,["self","spot","left","right","why"]),
 ("Congruence.join",cm,["self","left","right","why","small","large","moved","t","first","second","reasons"]),
 ("Congruence.note_clash",ef,["self","reasons"]),
 ("Congruence.lengths",fh,["self","home"]),
 ("Congruence.take_off",eV,["self","t","mark"]),
 ("Congruence.torn",gV,["self","small","left","right","reason"]),
 ("Congruence.with_reason",d3,["self","reasons","reason"]),
 ("Congruence.hang",gZ,["self","left","right","why","top"]),
 ("Congruence.turn",bP,["self","t","chain","here","edge","child"]),
 ("Congruence.edges_between",bo,["self","a","b","line","spots","here","back"]),
 ("Congruence.explain",cM,["self","a","b","work","seen","found","one","other","child","after","why"]),
 ("Congruence.separate",eU,["self","a","b","reason","one","other"]),
 ("Congruence.parted_by",c4,["self","one","other","left","right","reason"]),
 ("Congruence.explain_cause",dv,["self","a","b","cause","left","right","reason"]),
 ("Congruence.joined",fH,["self","some","more"]),
 ("Congruence.watch",gD,["self","t","left","right"]),
 ("Congruence.place_watch",dW,["self","t","left","right","one","other"]),
 ("Congruence.tell_class",ee,["self","home","t"]),
 ("Congruence.tell",gL,["self","t","left","right","cause"]),
 ("Congruence.implied",fm,["self","found","seen","t"]),
 ("Congruence.explain_told",dT,["self","t","left","right","truth","cause"]),
 ("Congruence.push_level",et,["self"]),
 ("Congruence.pop_levels",cT,["self","n","spot","entered","watched","t","left","right"]),
 ("Congruence.undo",g1,["self","entry","entered","watched","kind","left","right"]),
 ("Congruence.leave",gp,["self","t","homes","home","held"]),
 ("Congruence.part",gU,["self","small","large","lengths","value","t"]),
 ("Congruence.unwatch",fg,["self","t","one","other"]),
 ("Bank.__init__",iM,["self"]),
 ("Bank.declare_fun",d7,["self","name","arg_sorts","result"]),
 ("Bank.fresh_const",d8,["self","name","s"]),
 ("Bank.op",qv,["self","t"]),
 ("Bank.args",lG,["self","t"]),
 ("Bank.sort",lY,["self","t"]),
 ("Bank.data",lQ,["self","t"]),
 ("Bank.make",lX,["self","op","args","sort","data","key","found"]),
 ("Bank.true_term",hJ,["self"]),
 ("_law_next",oE,["feed","wide","spot"]),
 ("_law_terms",lV,["bank","f","some","inner","k","t"]),
 ("_law_closed",c1,["some","inner","facts","class_of","k","pairs","has_changed","calls","j","x","y","old","new","t"]),
 ("_law_is_apart",iX,["state","facts","class_of","x","y","ends","rows","left","right"]),
 ("_law_standing",iv,["state","found","level"]),
 ("_law_clashes",jK,["state","facts","class_of","rows","left","right"]),
 ("_law_is_good",jE,["state","reasons","marks","x","y","truth","k","facts","class_of"]),
 ("_law_noted",gW,["state","house","class_of","marks","high","t","truth","some","j","k"]),
 ("_law_asked",er,["state","house","turn","t","truth","marks","high","x","y","pairs","j","k"]),
 ("_law_taken_back",bq,["state","house","many","high","told","equal","t","pair"]),
 ("_law_done",oA,["state","house","deed","x","y","mark"]),
 ("_law_watched",ha,["feed","state","house","bank","some","lap","x","y","t"]),
 ("law",lK,["script","feed","bank","many","some","inner","house","state","t","turn","deed","x","y","mark","facts","class_of"])]
noncomputable def T(f:String):Option Fn:=(bu.find? λp=>p.1==f).map (·.2.1)
end ai.L1
namespace ai
open PySem PySem.W PyProof.Rows PySem.SeqAt
theorem cr(a b:String)(h:KD a=KD b):a=b:=by simp only[NQ,NQ] at h;injection h with h;have h:=congrArg Sy h;simp only at h;exact String.toList_inj.mp (List.map_inj_right (λx y e=>Char.toNat_inj.mp e)|>.mp h:a.toList=b.toList)
theorem iS(s:String):R8 (KD s)=true:=by rw[NQ];unfold R8;simp only[Array.all_eq_true_iff_forall_mem];intro x h;simp only[List.mem_toArray,Lo] at h;obtain⟨c,_,rfl⟩:=h;have:=c.valid;simp only[UInt32.isValidChar,Nat.isValidChar] at this;have e:c.toNat=c.val.toNat:=rfl;refine Z decide_eq_true_eq (Z e ?_);lia
def js(prog:L6)(w:MP)(h:Heap)(k:List Int)(a:Lb):Prop:=∃xs n,h.get? a=U {cls:=.type "tuple",data:=.seq xs n}/\xs.size<=LG/\RP (Mq prog w) k xs.toList
theorem js.key{prog:L6}{w:MP}{k:List Int}{a:Lb}:js prog w h k a->(N2 (Mq prog w)).is h k a:=λ⟨xs,n,g,_,j⟩=>⟨_,xs,n,g,rfl,rfl,j⟩
noncomputable def tK(prog:L6)(w:MP):RQ prog w (List Int) where
 is:=js prog w
 hash:=(N2 (Mq prog w)).hash
 draws:=(N2 (Mq prog w)).draws
 room:=(N2 (Mq prog w)).room
 inj:=λH y=>(N2 (Mq prog w)).inj H.key y.key
 keeps:=λ⟨xs,n,g,z,j⟩ o hd s=>⟨xs,n,(s.2 _ λq=>by subst q;rw[g] at o;cases o;cases hd).trans g,z,j⟩
 pyHash:=λu k h=>(N2 (Mq prog w)).pyHash u k.key h
 eqBool:=λu H y h=>(N2 (Mq prog w)).eqBool u H.key y.key h
 quiet:=λk h=>(N2 (Mq prog w)).quiet k.key h
theorem i7{prog:L6}{A:NA}(h:A.units+1<N6):(tK prog w).room A.in1:=tupleKind_room_in1 (knd:=Mq prog w) h
noncomputable def jI(l:List Int):List Sl:=l.map On
noncomputable def dX.toD:dX->Sl
 |.int i=>.int i
 |.gH l=>.tuple (jI l)
noncomputable def bQ.toD(k:bQ):Sl:=.tuple [.str (KD k.op),.tuple (jI k.args),.int k.pq,k.data.toD]
def sO(prog:L6)(w:MP)(h:Heap):dX->KI->Prop
 |.int i,x=>∃t,x=.int i t
 |.gH l,x=>∃c,x=.ref c/\js prog w h l c
def kr(prog:L6)(w:MP)(h:Heap)(k:bQ)(a:Lb):Prop:=
 ∃xs n,h.get? a=U {cls:=.type "tuple",data:=.seq xs n}/\xs.size<=LG/\∃t b u x,xs.toList=[.str (KD k.op) t,.ref b,.int k.pq u,x]/\js prog w h k.args b/\sO prog w h k.data x
variable {prog:Program} {w:World} {E:Value->Shared->Prop} {s:Shared} {h':Heap}
section
variable {A:Around} {h:Heap}
theorem uC(i:RP (Mq prog w) l vs):ReadsAll h vs (jI l) []:=by
 induction i with
 |nil=>exact .nil
 |@cons k v K vs H _ I=>refine cV (Pk H) λt e=>?_;clear H;subst e;exact .cons (as:=[]) (bs:=[]) (.int k t) I
theorem js.ff{l:List Int}{a:Lb}(x:js prog w h l a):TB h (.ref a) (.tuple (jI l)) []:=by exact cR x λxs n g _ i=>.tuple g rfl rfl (uC i)
theorem sO.ff{d:dX}(x:sO prog w h d v):TB h v d.toD []:=by
 induction d with
 |int i=>obtain⟨t,rfl⟩:=x;exact .int i t
 |gH l=>obtain⟨c,rfl,x⟩:=x;exact x.ff
theorem kr.ff{k:bQ}{a:Lb}(x:kr prog w h k a):TB h (.ref a) k.toD []:=by exact cR x λxs n g _ r=>oT r λt b u y e X c=>.tuple g rfl rfl (Z e (.cons (as:=[]) (bs:=[]) (.str _ t) (.cons (as:=[]) (bs:=[]) X.ff (.cons (as:=[]) (bs:=[]) (.int _ u) (.cons (as:=[]) (bs:=[]) c.ff .nil)))))
theorem hr:∀l:List Int,Od (jI l)=true/\NZ (jI l)=0
 |[]=>⟨rfl,rfl⟩
 |i::l=>by simp[jI,Od,PN,NZ,Pb];exact hr l
theorem dX.H1(d:dX):d.toD.canLay0=true/\d.toD.depth<=1:=by
 induction d with
 |int i=>exact⟨rfl,by simp[dX.toD,Pb]⟩
 |gH l=>simp only[dX.toD,PN,Pb,(hr l).1,(hr l).2];exact⟨trivial,by lia⟩
theorem bQ.H1(k:bQ):k.toD.canLay0=true/\k.toD.depth<=2:=by have d:=k.data.H1;simp only[bQ.toD,PN,Od,Pb,NZ,iS,(hr _).1,(hr _).2,d.1,Bool.and_self,true_and];lia
theorem ll:∀l m:List Int,Of (jI l) (jI m)=decide (l=m)
 |[],[]=>rfl
 |[],_::_=>rfl
 |_::_,[]=>rfl
 |i::l,j::m=>by have:=ll l m;simp only[jI,Ln,Of,M8] at this⊢;refine Z this ?_;by_cases c:i=j<;>by_cases C:l=m<;>simp[c,C]
set_option tactic.hygienic true in
theorem dX.eqv(a b:dX):M8 a.toD b.toD=decide (a=b):=by
 induction a<;>induction b<;>dsimp only[dX.toD,M8]
 ·rename_i i j;by_cases c:i=j<;>simp[c]
 ·simp
 ·simp
 ·refine Z (ll _ _) ?_;simp
theorem C7(a b:String):(KD a==KD b)=decide (a=b):=by
 by_cases c:a=b;·simp[c]
 ·have:¬KD a=KD b:=λe=>c (cr _ _ e)
  simp[c,this]
theorem bQ.eqv(a b:bQ):M8 a.toD b.toD=decide (a=b):=by obtain⟨o,l,i,d⟩:=a;obtain⟨c,L,I,D⟩:=b;simp only[bQ.toD,M8,Of,ll,dX.eqv,C7,bQ.mk.injEq,Bool.decide_and,Bool.and_true];rfl
theorem js.keep{l:List Int}{a:Lb}(x:js prog w h l a)(k:∀o,h.get? a=U o->(∀es ep,o.data≠.dict es ep)->h'.get? a=U o):js prog w h' l a:=by exact eH x λxs n g r=>⟨xs,n,k _ g (λ_ _ e=>nomatch e),r⟩
theorem kr.keep{l:bQ}{a:Lb}(x:kr prog w h l a)(k:∀a o,h.get? a=U o->(∀es ep,o.data≠.dict es ep)->h'.get? a=U o):kr prog w h' l a:=by
 refine cR x λxs n g z r=>oT r λt b u y e d X=>⟨xs,n,k _ _ g (λ_ _ e=>nomatch e),z,t,b,u,y,e,d.keep (k _),?_⟩;induction hd:l.data with
 |int i=>rw[hd] at X;exact X
 |gH l=>rw[hd] at X;clear e;obtain⟨c,rfl,X⟩:=X;exact⟨c,rfl,X.keep (k _)⟩
theorem js.inj{x y:List Int}{a:Lb}(H:js prog w h x a)(b:js prog w h y a):x=y:=(N2 (Mq prog w)).inj H.key b.key
theorem sO.inj{d D:dX}{u:KI}(x:sO prog w h d u)(y:sO prog w h D u):d=D:=by
 induction d with
 |int i=>
  refine cV x λt e=>?_;clear x;subst e;induction D with
  |int j=>obtain⟨t,H⟩:=y;(injection H with H;subst H);rfl
  |gH j=>refine aD y λc C _=>?_;cases C
 |gH l=>
  obtain⟨c,rfl,x⟩:=x;induction D with
  |int j=>refine cV y λt H=>?_;cases H
  |gH j=>refine aD y λc C y=>?_;(injection C with C;subst C);exact Z (x.inj y) rfl
theorem Fx{a b c d A B c' D:KI}(e:[a,b,c,d]=[A,B,c',D]):a=A/\b=B/\c=c'/\d=D:=
 have h:=Ly e;have i:=Ly h.2;have j:=Ly i.2
 ⟨h.1,i.1,j.1,(Ly j.2).1⟩
theorem CC{c c':KI}(e:U ({cls:=c,data:=.seq xs n}:K4)=U {cls:=c',data:=.seq x N}):xs=x:=(Data.seq.inj (congrArg PySem.Obj.data (KC e))).1
theorem ED{x y:bQ}(h:x.op=y.op)(H:x.args=y.args)(a:x.pq=y.pq)(b:x.data=y.data):x=y:=congr (congr (congr (congrArg bQ.mk h) H) a) b
theorem kr.inj{x y:bQ}{a:Lb}(H:kr prog w h x a)(c:kr prog w h y a):x=y:=by exact cR H λxs n g _ r=>oT r λt b u v e X d=>cR c λs N g' _ R=>oT R λT B l V E f i=>fj (Fx ((e.symm.trans (congrArg Sy (CC (g.symm.trans g')))).trans E)) λq Q j k=>ED (cr _ _ (Value.str.inj q).1) (X.inj ((Value.ref.inj Q)▸f)) (Value.int.inj j).1 (d.inj (k▸i))
noncomputable def dX.hash(prog:L6)(w:MP):dX->Int
 |.int i=>(Mq prog w).hash i
 |.gH l=>tupleKeyHash (Mq prog w) l
noncomputable def dX.draws:dX->Nat
 |.int i=>1
 |.gH l=>l.length+1
noncomputable def bQ.yU(prog:L6)(w:MP)(k:bQ):List Int:=[(L5 prog w).hash (KD k.op),tupleKeyHash (Mq prog w) k.args,(Mq prog w).hash k.pq,k.data.hash prog w]
noncomputable def bQ.hash(prog:L6)(w:MP)(k:bQ):Int:=reduceHash (Pc (k.yU prog w))
noncomputable def bQ.draws(k:bQ):Nat:=1+(k.args.length+1)+1+k.data.draws+1
theorem sO.pyHash{d:dX}{Q:Int->K2->Prop}(h:A.units<N6)(x:sO prog w s.heap d v)(q:Q (d.hash prog w) {s with toks:=s.toks+d.draws}):KV (K5 prog w) A (Ou v) Q E s:=by
 induction d with
 |int i=>obtain⟨t,rfl⟩:=x;exact(Mq prog w).pyHash (Nq _ _ _ _) q
 |gH l=>obtain⟨c,rfl,x⟩:=x;exact Se h x.key q
theorem jr{R:List KI}{b:Array Int}{Q:Array Int->K2->Prop}(p:KV (K5 prog w) A (Ou x) (λn s'=>KV (K5 prog w) A (forIn R (b.push n) λx r=>do let h<-Ou x;pure S2;pure (L8 (r.push h))) Q E s') E s):
  KV (K5 prog w) A (forIn (x::R) b λx r=>do let h<-Ou x;pure S2;pure (L8 (r.push h))) Q E s:=by
 rw[M2];refine KA (KA (K0 p (λn s' q=>?_) λ_ _ y=>y))
 first |exact KL q |exact KL (KL q) |exact KA (KL (KL q))
theorem Cz{Q:Int->K2->Prop}(h:A.units+4<N6)(x:kr prog w s.heap k a)(q:Q (k.hash prog w) {s with toks:=s.toks+k.draws}):KV (K5 prog w) A (Ou (.ref a)) Q E s:=by refine cR x λxs n g _ r=>oT r λt b u y e X c=>pyHash_slot (T:="tuple") (⟨_,g,rfl⟩:s.TypeIs (.ref a) "tuple") PySem.F.slot_tuple_hash PySem.F.entry_tuple_hash (PySem.F.args_tuple_hash_1 _) (beq_builtin_none _) (.inr (bM (gF _ _) 0x113781311314378 rfl h)) ((KA (wpAny_tupleItemsOf g rfl ?_)):KV _ _ (SX (.ref a)>>=_) _ _ s);refine KA (hR Oa (Z e ?_));have H:A.in1.units=A.units+1:=Q8 _;refine jr ((L5 prog w).pyHash (OX _ _ _ _) (jr (Se (s:={s with toks:=s.toks+1}) (bM (ip _ _ _) 0x1137813113143981371139 rfl h (KQ H)) X.key (jr ((Mq prog w).pyHash (Nq _ _ _ _) (jr (c.pyHash (s:={s with toks:=s.toks+1+(k.args.length+1)+1}) (bM (ip _ _ _) 0x1137813113143981371139 rfl h (KQ H)) (KL ((KA (wpAny_mkInt (KL ⟨_,_,rfl,?_⟩))):KV _ _ (retInt (Pc _)) _ _ _)))))))));simp only[bQ.hash,bQ.yU,bQ.draws] at q;simpa[SN] using q
theorem Hu{Q:Bool->K2->Prop}(u:A.units+4<N6)(h:kr prog w s.heap x a)(H:kr prog w s.heap y b)(q:Q (decide (x=y)) s):KV (K5 prog w) A (PySem.eqBool (.ref a) (.ref b)) Q E s:=
 eqBoolOverData prog w A E s _ _ _ _ _ _ Q h.ff H.ff x.H1.1 y.H1.1 (by have:=y.H1.2;lia) (Z (bQ.eqv _ _) q)
theorem l9{a:Lb}{Q:Bool->K2->Prop}(g:s.heap.get? a=U {cls:=.type "tuple",data:=.seq xs N})
  (d:∀v∈xs.toList,∀Q:Bool->K2->Prop,Q true s->KV (K5 prog w) A (Pq n v) Q E s)(q:Q true s):KV (K5 prog w) A (Pq (n+1) (.ref a)) Q E s:=by
 have t:s.TypeIs (.ref a) "tuple":=⟨_,g,rfl⟩;unfold Pq;refine KA (O4 t PySem.F.slot_tuple_eq.lookup ((KA (OJ t isSubtype_tuple_tuple ?_)):KV _ _ (isInstance (.ref a) (.type "tuple")>>=_) _ _ s));dsimp only[Sx,LX,if_false];refine KA (Ma g rfl (KA ((hR Oa (wpAny_forIn_list _ (λR r s'=>r.1=KF/\s'=s/\∀v∈R,v∈xs.toList) _ ?_ ?_ _ _ ⟨rfl,rfl,λ_ h=>h⟩)):KV _ _ (forIn xs _ _) _ _ s)))
 ·rintro v R r s' ⟨b,rfl,H⟩
  refine KA (d v (H v KJ) _ ?_);simp only[Sx,LX,if_false];exact KL ⟨rfl,rfl,λu c=>H u (KP _ c)⟩
 ·rintro⟨e,f⟩ s' ⟨b,rfl,_⟩
  simp only at b;subst b;exact KL q
theorem e8(h:carriedByValue v=true){Q:Bool->K2->Prop}(q:Q true s):KV (K5 prog w) A (Pq n v) Q E s:=by exact Z (eqIsQuiet_byValue n h) (KL q)
theorem js.quiet{n:Nat}{l:List Int}{a:Lb}(x:js prog w s.heap l a){Q:Bool->K2->Prop}(q:Q true s):KV (K5 prog w) A (Pq (n+1) (.ref a)) Q E s:=by exact cR x λxs m g _ i=>l9 g (λv h Q q=>e8 (i.byValue v h) q) q
theorem zs{Q:Bool->K2->Prop}(x:kr prog w s.heap k a)(q:Q true s):KV (K5 prog w) A (Pq 8 (.ref a)) Q E s:=by
 refine cR x λxs n g _ r=>oT r λt b u y e d X=>l9 g (λv h Q q=>?_) q;rw[e] at h;simp only[KM,MH,or_false] at h;rcases h with rfl |rfl |rfl |rfl
 ·exact e8 rfl q
 ·exact d.quiet q
 ·exact e8 rfl q
 ·induction hd:k.data with
  |int i=>rw[hd] at X;clear e;obtain⟨t,rfl⟩:=X;exact e8 rfl q
  |gH l=>rw[hd] at X;clear e;obtain⟨c,rfl,X⟩:=X;exact X.quiet q
noncomputable def nK(prog:L6)(w:MP):RQ prog w bQ where
 is:=kr prog w
 hash:=bQ.hash prog w
 draws:=bQ.draws
 room:=λA=>A.units+4<N6
 inj:=λH y=>H.inj y
 keeps:=λx a hd s=>x.keep λb o g n=>(s.2 b λq=>by subst q;rw[a] at g;cases g;exact n _ _ hd).trans g
 pyHash:=λu k h=>Cz u k h
 eqBool:=λu H y h=>Hu u H y h
 quiet:=λk h=>zs k h
theorem v8(h:A.units+5<N6):(nK prog w).room A.in1:=by refine(?_ :A.in1.units+4<N6);simp only[Q8];omega
end
section
variable {A:Around}
theorem ma{a:Lb}{Q:Option K4->K2->Prop}(h:Q (s.heap.get? a) s):KV M A (Qk a) Q E s:=λb p H=>by unfold Qk;simp only[Sem.wp_loadIfAlive];exact KL (M:=M) (A:=A) (E:=E) h b p H
theorem dH{x:KI}{Q:KI->K2->Prop}(h:s.heap.IsTupleIter it t i)(T:s.heap.IsTuple t I)(X:I[i]? =U x)
  (q:∀h',h'.IsTupleIter it t (i+1)->MC it s.heap h'->Q x {s with heap:=h'}):KV (K5 prog w) A (Li (.ref it)) Q E s:=by
 refine gc (id h) λo H c hd=>gc T λa l _ r=>cV r λn L=>?_;unfold Li;refine KA (MB (name:=KD "__next__") h.typeIs Nn (My Nn h.typeIs Qn ((KA (L3 H hd (x:=.ref t) rfl ((Z (if_neg ((LW:¬((Mu t==L4)=true)))) ((KA (L3 H hd (x:=.int i 0) rfl (?_ :KV _ _ (seqItems? (.ref t)>>=_) _ _ s))):KV _ _ (PB (.ref it) 1>>=_) _ _ s)):KV _ _ (if(Mu t==L4)=true then _ else _) _ _ s))):KV _ _ (PB (.ref it) 0>>=_) _ _ s) (Qf _)));refine KA (Ma l L ?_);simp only[Mn,X];refine KA (Pg H hd (by simp) (KL ⟨x,rfl,KL (q _ ?_ (Mj ..))⟩));exact⟨_,LY _ H (Obj.isFreed_of_fields (Obj.data_mapFields hd _)),(Obj.cls_mapFields ..).trans c,by
  refine Z (Obj.data_mapFields hd _) ?_;simp[Ng]⟩
theorem dE{Q:KI->K2->Prop}(b:A.handled=KF)(h:s.heap.IsTupleIter it t i)(T:s.heap.IsTuple t I)(X:I[i]? =KF)
  (c:∀h' e,LL it s.heap h'->(∃o,h'.get? e=U o/\o.cls=.type "StopIteration")->E (.ref e) {s with heap:=h'}):KV (K5 prog w) A (Li (.ref it)) Q E s:=by
 refine gc (id h) λo H C hd=>?_;refine gc T λd l _ r=>cV r λn L=>?_;unfold Li;refine KA (MB (name:=KD "__next__") h.typeIs Nn
  (My Nn h.typeIs Qn ?_ (Qf _)));refine(?_ :KV _ _ (PB (.ref it) 0>>=_) _ _ s);refine KA (L3 H hd (x:=.ref t) rfl ?_);refine(?_ :KV _ _ (if(Mu t==L4)=true then _ else _) _ _ s);refine Z (if_neg ((LW:¬((Mu t==L4)=true)))) ?_;refine(?_ :KV _ _ (PB (.ref it) 1>>=_) _ _ s);refine KA (L3 H hd (x:=.int i 0) rfl ?_);refine(?_ :KV _ _ (seqItems? (.ref t)>>=_) _ _ s);refine KA (Ma l L ?_);simp only[Mn,X];refine KA (Ok (KA (Pg H hd (by simp) ?_)));refine(?_ :KV _ _ (Tr (.type "StopIteration") []>>=_) _ _ _);refine KA ?_;simp only[Tr,newTuple];refine KA (MV ?_ (by size_fits));refine KA (m:=Ph _ _) (RL (a:=L4) (by first |rfl |(refine Z Ph ?_;rfl)) ?_);refine MV ?_ (by size_fits);refine(?_ :KV _ _ (handled>>=_) _ _ _);refine KA (TH ?_)
 first |exact iR ((b:A.in1.handled=KF)) rfl |refine Z b ?_
 refine KA (KL (wpAny_throw ?_));exact c _ _ (((Mj ..).extBut.push _).push _) ⟨_,KY _ rfl,rfl⟩
abbrev qi(h:Heap)(z TI TO:Lb)(f F:KI):Prop:=
 h.get? z=U {cls:=.type "zip",dict:=KF,data:=.fields #[f,F,.bool false,.ref TI,.ref TO],slots:=#[]}
structure Cj(h:Heap)(z TI TO i I l1 l2:Lb)(xs ys:Array KI)(k:Nat):Prop where
 z:(qi h z TI TO .none (.bool false)/\k=0)\/∃(T:Lb) (b:Bool),qi h z TI TO (Ng T) (.bool b)/\(∃o,h.get? T=U o)/\T≠z/\T≠TO/\T≠i/\T≠I
 TI:Nh h TI (.ref i) (.ref I)
 TO:∃a b,Nh h TO a b
 h1:h.IsTupleIter i l1 k
 h2:h.IsTupleIter I l2 k
 l1:h.IsTuple l1 xs
 l2:h.IsTuple l2 ys
theorem bE{h:Heap}(x:h.IsTupleIter a t i)(e:∀o,h.get? a=U o->h'.get? a=U o):h'.IsTupleIter a t i:=let ⟨o,H,r⟩:=x;⟨o,e o H,r⟩
theorem dd{h:Heap}(x:h.IsTuple a xs)(e:∀o,h.get? a=U o->h'.get? a=U o):h'.IsTuple a xs:=let ⟨o,H,r⟩:=x;⟨o,e o H,r⟩
theorem C5{z TI TO i I L t T:Lb}{b:Bool}{xs ys:Array KI}{k:Nat}{x y:KI}{Q:KI->K2->Prop}(D:Ol z TI TO i I L t)
  (hz:qi s.heap z TI TO (Ng T) (.bool b))(V:∃o,s.heap.get? T=U o)(u:Nh s.heap TI (.ref i) (.ref I))
  (W:s.heap.IsTupleIter i L k)(X:s.heap.IsTupleIter I t k)(B:s.heap.IsTuple L xs)(C:s.heap.IsTuple t ys)(hx:xs[k]? =U x)(hy:ys[k]? =U y)
  (hQ:∀h' N,qi h' z TI TO (Ng T) (.bool true)->h'.IsTupleIter i L (k+1)->h'.IsTupleIter I t (k+1)->Nh h' N x y->s.heap.objs.size<=N->
   (∀c o,c≠z->c≠i->c≠I->s.heap.get? c=U o->h'.get? c=U o)->Q (.ref N) {s with heap:=h'}):
  KV (K5 prog w) A (Builtin.«zip.__next__» ⟨[.ref z],[]⟩) (λcY s'=>∃v,cY=.done (.ret v)/\Q v s') E s:=by
 refine((KA (L3 hz rfl (x:=.bool false) rfl ?_)):KV _ _ (PB (.ref z) 2>>=_) _ _ _);refine((KA (L3 hz rfl (x:=.ref TI) rfl ?_)):KV _ _ (PB (.ref z) 3>>=_) _ _ _);refine KA (Ma u rfl ((KA (K0 (Q:=λr s'=>r=false/\∃h,s'={s with heap:=h}/\qi h z TI TO (Ng T) (.bool true)/\h.objs.size=s.heap.objs.size/\∀c o,c≠z->s.heap.get? c=U o->h.get? c=U o) ?_ (λr s' p=>?_) λ_ _ y=>y)):KV _ _ (Lm (.ref z)>>=_) _ _ _))
 ·unfold Lm
  refine KA (L3 hz rfl (x:=Ng T) rfl ((KA (ma ?_)):KV _ _ (Qk (TW T)>>=_) _ _ s));obtain⟨o,ho⟩:=V;refine Z (Mn _) (Z ho ?_);dsimp only[QS,LX,if_false];refine KA (L3 hz rfl (x:=.bool b) rfl ?_);induction b with
  |true=>exact KL ⟨rfl,_,rfl,hz,rfl,λ_ _ _ e=>e⟩
  |false=>exact KA (Mx hz (by simp) λh H a=>KL ⟨rfl,h,rfl,H,a.1,λc o hc e=>a.extBut _ _ hc e⟩)
 refine ay p λj R=>lf R λh l H g K=>?_;subst j;clear p R;subst l;dsimp only[LX,if_false];have J:i≠z:=D.i1z;have M:I≠z:=D.i2z;refine KA (hR Oa ?_);simp only[M2,OU];refine KA (KA (LJ (?_ :KV _ _ (Li (.ref i)>>=_) _ _ _)));refine KA (dH (bE W λo e=>K _ o J e) (dd B λo e=>K _ o D.l1z e) hx λm n d=>KL (KL ?_));have f:∀c o,c≠z->c≠i->s.heap.get? c=U o->m.get? c=U o:=λc o F G e=>d.extBut _ _ G (K c o F e);refine KA (KA (LJ (?_ :KV _ _ (Li (.ref I)>>=_) _ _ _)));refine KA (dH (bE X λo e=>f _ o M D.i12.symm e) (dd C λo e=>f _ o D.l2z D.l2i1 e) hy λP q S=>KL (KL (KL (KA (QB (hsz:=by refine(?_ :2<=LG);refine Z NO ?_;decide) (KL ⟨_,rfl,hQ _ _ (KT _ (S.extBut _ _ M.symm (d.extBut _ _ J.symm H))) ?_ ?_ (KY _ rfl) ?_ λc o F G c3 e=>KT _ (S.extBut _ _ c3 (f c o F G e))⟩))))));·exact bE n λo e=>KT _ (S.extBut _ _ D.i12 e)
 ·exact bE q λo e=>KT _ e
 ·simp only[S.1,d.1,g];exact KX _
theorem Fb{z TI TO i I L n T:Lb}{b:Bool}{xs ys:Array KI}{k:Nat}{Q:Fin->K2->Prop}(F:A.handled=KF)(D:Ol z TI TO i I L n)
  (hz:qi s.heap z TI TO (Ng T) (.bool b))(P:∃o,s.heap.get? T=U o)(q:Nh s.heap TI (.ref i) (.ref I))
  (G:s.heap.IsTupleIter i L k)(R:s.heap.IsTupleIter I n k)(l:s.heap.IsTuple L xs)(t:s.heap.IsTuple n ys)(f:xs[k]? =KF\/ys[k]? =KF)
  (J:∀h' e,(∀c o,c≠z->c≠TO->c≠i->c≠I->s.heap.get? c=U o->h'.get? c=U o)->(∃o,h'.get? e=U o/\o.cls=.type "StopIteration")->E (.ref e) {s with heap:=h'}):
  KV (K5 prog w) A (Builtin.«zip.__next__» ⟨[.ref z],[]⟩) Q E s:=by
 refine((KA (L3 hz rfl (x:=.bool false) rfl ?_)):KV _ _ (PB (.ref z) 2>>=_) _ _ _);refine((KA (L3 hz rfl (x:=.ref TI) rfl ?_)):KV _ _ (PB (.ref z) 3>>=_) _ _ _);refine KA (Ma q rfl ((KA (K0 (Q:=λr s'=>r=false/\∃H,s'={s with heap:=H}/\∀c o,c≠z->s.heap.get? c=U o->H.get? c=U o) ?_ (λr s' p=>?_) λ_ _ y=>y)):KV _ _ (Lm (.ref z)>>=_) _ _ _))
 ·unfold Lm
  refine KA (L3 hz rfl (x:=Ng T) rfl ((KA (ma ?_)):KV _ _ (Qk (TW T)>>=_) _ _ s));obtain⟨o,V⟩:=P;refine Z (Mn _) (Z V ?_);dsimp only[QS,LX,if_false];refine KA (L3 hz rfl (x:=.bool b) rfl ?_);induction b with
  |true=>exact KL ⟨rfl,_,rfl,λ_ _ _ e=>e⟩
  |false=>exact KA (Mx hz (by simp) λH u S=>KL ⟨rfl,H,rfl,λc o W e=>S.extBut _ _ W e⟩)
 obtain⟨rfl,H,rfl,K⟩:=p;dsimp only[LX,if_false];have M:i≠z:=D.i1z;refine KA (hR Oa ?_);simp only[M2,OU];refine KA (KA (LJ (?_ :KV _ _ (Li (.ref i)>>=_) _ _ _)));induction X:xs[k]?with
 |none=>exact KA (dE F (bE G λo e=>K _ o M e) (dd l λo e=>K _ o D.l1z e) X λd e a v=>J d e (λc o C _ B _ x=>a _ _ B (K _ _ C x)) v)
 |some x=>
  have hy:ys[k]? =KF:=by refine KS f (λh=>?_) λh=>?_;replace h:=X▸h;exact(nomatch h);exact h
  refine KA (dH (bE G λo e=>K _ o M e) (dd l λo e=>K _ o D.l1z e) X λd N g=>KL (KL ?_));have a:∀c o,c≠z->c≠i->s.heap.get? c=U o->d.get? c=U o:=λc o C c2 e=>g.extBut _ _ c2 (K c o C e);refine KA (KA (LJ (?_ :KV _ _ (Li (.ref I)>>=_) _ _ _)));exact KA (dE F (bE R λo e=>a _ o (D.i2z:I≠z) D.i12.symm e) (dd t λo e=>a _ o D.l2z D.l2i1 e) hy λj e m v=>J j e (λc o C _ B c4 x=>m _ _ c4 (a _ _ C B x)) v)
theorem z0{TI TO P R:Lb}{x y:KI}{Q:KI->K2->Prop}(D:Ol z TI TO I C P R)
  (hz:qi s.heap z TI TO .none (.bool false))(an:Nh s.heap TI (.ref I) (.ref C))(ap:Nh s.heap TO a b)
  (h1:s.heap.IsTupleIter I P k)(h2:s.heap.IsTupleIter C R k)(as:s.heap.IsTuple P xs)(a1:s.heap.IsTuple R ys)(hx:xs[k]? =U x)(hy:ys[k]? =U y)
  (hQ:∀(h':Heap) (N:Lb),qi h' z TI TO (Ng N) (.bool false)->Nh h' TO x y->h'.IsTupleIter I P (k+1)->h'.IsTupleIter C R (k+1)->Nh h' N x y->s.heap.objs.size<=N->
   (∀c o,c≠z->c≠TO->c≠I->c≠C->s.heap.get? c=U o->h'.get? c=U o)->Q (.ref N) {s with heap:=h'}):
  KV (K5 prog w) A (Builtin.«zip.__next__» ⟨[.ref z],[]⟩) (λcY s'=>∃v,cY=.done (.ret v)/\Q v s') E s:=by
 refine((KA (L3 hz rfl (x:=.bool false) rfl ?_)):KV _ _ (PB (.ref z) 2>>=_) _ _ _);refine((KA (L3 hz rfl (x:=.ref TI) rfl ?_)):KV _ _ (PB (.ref z) 3>>=_) _ _ _);refine KA (Ma an rfl ((KA ?_):KV _ _ (Lm (.ref z)>>=_) _ _ _));unfold Lm;refine KA (L3 hz rfl (x:=.none) rfl (KL ?_));dsimp only[if_true];refine KA (Ok (KA (L3 hz rfl (x:=.ref TO) rfl (KA (Mx hz (by simp) λG Z p=>?_)))));replace Z:qi G z TI TO .ellipsis (.bool false):=Z;refine KA ?_;simp only[Oq,RY,M2,OU];have e1:I≠z:=D.i1z;have e2:C≠z:=D.i2z;have K:∀c o,c≠z->s.heap.get? c=U o->G.get? c=U o:=λc o hc e=>p.extBut _ _ hc e;refine KA (KA (OB (?_ :KV _ _ (Li (.ref I)>>=_) _ _ _)));refine KA (dH (bE h1 λo e=>K _ o e1 e) (dd as λo e=>K _ o D.l1z e) hx λT V j=>KL ?_);have l:Nh T TO a b:=j.extBut _ _ D.TOi1 (K _ _ D.TOz ap);refine KA (Ma l rfl (KA (Pf l λJ d m=>?_)));replace d:Nh J TO x b:=d;refine KA (Ov (KL ?_));have q:∀c o,c≠z->c≠TO->c≠I->s.heap.get? c=U o->J.get? c=U o:=λc o F M W e=>m.extBut _ _ M (j.extBut _ _ W (K c o F e));refine KA (KA (OB (?_ :KV _ _ (Li (.ref C)>>=_) _ _ _)));refine KA (dH (bE h2 λo e=>q _ o e2 D.TOi2.symm D.i12.symm e) (dd a1 λo e=>q _ o D.l2z D.l2TO D.l2i1 e) hy λX aa S=>KL ?_);have n:Nh X TO x b:=S.extBut _ _ D.TOi2 d;refine KA (Ma n rfl (KA (Pf n λh H f=>?_)));replace H:Nh h TO x y:=H;refine KA (Ov (KL (KL (KA (Ma H rfl (KA (QB ?_)))))));have r:qi h z TI TO .ellipsis (.bool false):=f.extBut _ _ D.TOz.symm (S.extBut _ _ D.i2z.symm (m.extBut _ _ D.TOz.symm (j.extBut _ _ D.i1z.symm Z)));have ac:∀c o,c≠z->c≠TO->c≠I->c≠C->s.heap.get? c=U o->h.get? c=U o:=λc o F M W c4 e=>f.extBut _ _ M (S.extBut _ _ c4 (q c o F M W e));have af:z<h.objs.size:=Lh r;refine((KA ?_):KV _ _ (Ob (.ref z) (.ref h.objs.size)>>=_) _ _ _);unfold Ob;have L:qi (h.push {cls:=.type "tuple",data:=.seq #[x,y]}) z TI TO .ellipsis (.bool false):=KT _ r;refine KA (Mx L (by simp) λag g t=>?_);replace g:qi ag z TI TO (Ng h.objs.size) (.bool false):=g;refine Mx g (by simp) λu i B=>?_;replace i:qi u z TI TO (Ng h.objs.size) (.bool false):=i;have up:∀c o,c≠z->h.get? c=U o->u.get? c=U o:=λc o F e=>B.extBut _ _ F (t.extBut _ _ F (KT _ e));exact KL ⟨_,rfl,hQ u h.objs.size i (up _ _ D.TOz H) (bE (bE V λo e=>f.extBut _ _ D.TOi1.symm (S.extBut _ _ D.i12 (m.extBut _ _ D.TOi1.symm e)):h.IsTupleIter I P (k+1)) λo e=>up _ o e1 e) (bE (bE aa λo e=>f.extBut _ _ D.TOi2.symm e:h.IsTupleIter C R (k+1)) λo e=>up _ o e2 e) (B.extBut _ _ (NM af) (t.extBut _ _ (NM af) (KY _ rfl))) (KQ (by simp only[f.1,S.1,m.1,j.1,p.1]:h.objs.size=s.heap.objs.size).symm) λc o F M W c4 e=>up c o F (ac c o F M W c4 e)⟩
theorem rA{TI TO V W:Lb}{Q:Fin->K2->Prop}(hh:A.handled=KF)(D:Ol z TI TO I B V W)
  (hz:qi s.heap z TI TO .none (.bool false))(X:Nh s.heap TI (.ref I) (.ref B))(aa:Nh s.heap TO a b)
  (h1:s.heap.IsTupleIter I V k)(h2:s.heap.IsTupleIter B W k)(L:s.heap.IsTuple V xs)(ac:s.heap.IsTuple W ys)(G:xs[k]? =KF\/ys[k]? =KF)
  (P:∀h' e,(∀c o,c≠z->c≠TO->c≠I->c≠B->s.heap.get? c=U o->h'.get? c=U o)->(∃o,h'.get? e=U o/\o.cls=.type "StopIteration")->E (.ref e) {s with heap:=h'}):
  KV (K5 prog w) A (Builtin.«zip.__next__» ⟨[.ref z],[]⟩) Q E s:=by
 refine((KA (L3 hz rfl (x:=.bool false) rfl ?_)):KV _ _ (PB (.ref z) 2>>=_) _ _ _);refine((KA (L3 hz rfl (x:=.ref TI) rfl ?_)):KV _ _ (PB (.ref z) 3>>=_) _ _ _);refine KA (Ma X rfl ((KA ?_):KV _ _ (Lm (.ref z)>>=_) _ _ _));unfold Lm;refine KA (L3 hz rfl (x:=.none) rfl (KL ?_));dsimp only[if_true];refine KA (Ok (KA (L3 hz rfl (x:=.ref TO) rfl (KA (Mx hz (by simp) λr H S=>?_)))));replace H:qi r z TI TO .ellipsis (.bool false):=H;refine KA ?_;simp only[Oq,RY,M2,OU];have F:I≠z:=D.i1z;have R:B≠z:=D.i2z;have K:∀c o,c≠z->s.heap.get? c=U o->r.get? c=U o:=λc o hc e=>S.extBut _ _ hc e;refine KA (KA (OB (?_ :KV _ _ (Li (.ref I)>>=_) _ _ _)));induction hx:xs[k]?with
 |none=>
  refine KA (dE hh (bE h1 λo e=>K _ o F e) (dd L λo e=>K _ o D.l1z e) hx λi e t he=>aD he λoe d j=>?_);have Z:qi i z TI TO .ellipsis (.bool false):=t _ _ F.symm H;have y:e≠z:=λx=>by clear K R F H S P hz D;subst x;rw[Z] at d;(replace d:=KC d;subst d);simp at j
  refine Mx Z (by simp) λl _ m=>P l e (λc o C _ J _ x=>m.extBut _ _ C (t _ _ J (K _ _ C x))) ⟨oe,m.extBut _ _ y d,j⟩
 |some x=>
  have hy:ys[k]? =KF:=by refine KS G (λh=>?_) λh=>?_;rw[hx] at h;exact(nomatch h);exact h
  refine KA (dH (bE h1 λo e=>K _ o F e) (dd L λo e=>K _ o D.l1z e) hx λi af n=>KL ?_);have f:Nh i TO a b:=n.extBut _ _ D.TOi1 (K _ _ D.TOz aa);refine KA (Ma f rfl (KA (Pf f λl T u=>KA (Ov (KL ?_)))));have g:∀c o,c≠z->c≠TO->c≠I->s.heap.get? c=U o->l.get? c=U o:=λc o C c2 J e=>u.extBut _ _ c2 (n.extBut _ _ J (K c o C e));refine KA (KA (OB ((KA (dE hh (bE h2 λo e=>g _ o R D.TOi2.symm D.i12.symm e) (dd ac λo e=>g _ o D.l2z D.l2TO D.l2i1 e) hy λM e v he=>aD he λoe d j=>?_)):KV _ _ (Li (.ref B)>>=_) _ _ _)));have p:qi M z TI TO .ellipsis (.bool false):=v _ _ R.symm (u.extBut _ _ D.TOz.symm (n.extBut _ _ F.symm H));have y:e≠z:=λx=>by clear g K R F H S P hz D;subst x;rw[p] at d;(replace d:=KC d;subst d);simp at j
  refine Mx p (by simp) λN _ q=>P N e (λc o C c2 J c4 x=>q.extBut _ _ C (v _ _ c4 (g _ _ C c2 J x))) ⟨oe,q.extBut _ _ y d,j⟩
theorem wM{TI TO:Lb}{Q:Option KI->K2->Prop}(V:A.handled=KF)(D:Ol z TI TO I j G J)(Z:Cj s.heap z TI TO I j G J xs ys k)
  (d:(xs[k]? =KF\/ys[k]? =KF)->∀h',(∀c o,c≠z->c≠TO->c≠I->c≠j->s.heap.get? c=U o->h'.get? c=U o)->Q KF {s with heap:=h'})
  (f:∀x y,xs[k]? =U x->ys[k]? =U y->∀h' N,Cj h' z TI TO I j G J xs ys (k+1)->Nh h' N x y->s.heap.objs.size<=N->
   (∀c o,c≠z->c≠TO->c≠I->c≠j->s.heap.get? c=U o->h'.get? c=U o)->Q (U (.ref N)) {s with heap:=h'}):
  KV (K5 prog w) A (Oc (.ref z)) Q E s:=by
 obtain⟨hz,i,⟨a,b,g⟩,q,t,l,L⟩:=Z;have v:s.TypeIs (.ref z) "zip":=by refine KS hz (λr=>ay r λhz _=>?_) λR=>eH R λT b hz _=>?_ <;>exact⟨_,hz,rfl⟩
 have lt:∀{c:Lb} {o:K4} {N:Lb},s.heap.get? c=U o->s.heap.objs.size<=N->N≠c:=λe n=>NM (K6 (Lh e) n);have zz:∃o,s.heap.get? z=U o:=by refine KS hz (λm=>ay m λhz _=>?_) λp=>eH p λT b hz _=>?_ <;>exact⟨_,hz⟩
 obtain⟨oz,gz⟩:=zz;have K:∃o,s.heap.get? I=U o:=let ⟨o,e,_⟩:=q;⟨o,e⟩;have M:∃o,s.heap.get? j=U o:=let ⟨o,e,_⟩:=t;⟨o,e⟩;obtain⟨o1,g1⟩:=K;obtain⟨o2,g2⟩:=M;unfold Oc;by_cases h:xs[k]? =KF\/ys[k]? =KF
 ·have cY:∀h' (e:Lb),(∀c o,c≠z->c≠TO->c≠I->c≠j->s.heap.get? c=U o->h'.get? c=U o)->(∃o,h'.get? e=U o/\o.cls=.type "StopIteration")->
    KV (K5 prog w) A (do if<-isInstance (.ref e) (.type "StopIteration") then pure KF else throw (.ref e)) Q E {s with heap:=h'}:=λh' e H u=>by
   exact aD u λo ho hc=>KA (OJ (T:="StopIteration") (b:=true) ⟨o,ho,hc⟩ Tt (KL (d h h' H)))
  refine KA (PA (MB (name:=KD "__next__") v OP (My OP v So ?_ (R9 _))));clear f d;rcases hz with⟨hz,rfl⟩ |⟨T,b,hz,P,_⟩
  ·exact rA V D hz i g q t l L h λh' e H u=>cY h' e H u
  ·exact Fb V D hz P i q t l L h λh' e H u=>cY h' e H u
 ·obtain⟨x,X⟩:∃x,xs[k]? =U x:=by
   induction e:xs[k]?with
   |none=>exact absurd (.inl e) h
   |some x=>exact⟨x,rfl⟩
  obtain⟨y,B⟩:∃y,ys[k]? =U y:=by
   induction e:ys[k]?with
   |none=>exact absurd (.inr e) h
   |some x=>exact⟨x,rfl⟩
  refine KA (PA (MB (name:=KD "__next__") v OP (My OP v So ?_ (R9 _))));clear h d;rcases hz with⟨hz,rfl⟩ |⟨T,b,hz,⟨oT,W⟩,t1,t2,t3,t4⟩
  ·exact z0 D hz i g q t l L X B λh' N a1 a2 a3 S C n H=>KL (f x y X B h' N
    ⟨.inr ⟨N,false,a1,⟨_,C⟩,lt gz n,lt g n,lt g1 n,lt g2 n⟩,H _ _ D.TIz D.TITO D.TIi1 D.TIi2 i,⟨_,_,a2⟩,a3,S,dd l λo e=>H _ o D.l1z D.l1TO D.l1i1 D.l1i2 e,dd L λo e=>H _ o D.l2z D.l2TO D.l2i1 D.l2i2 e⟩ C n H)
  ·exact C5 D hz ⟨oT,W⟩ i q t l L X B λh' N a1 a3 S C n H=>KL (f x y X B h' N
    ⟨.inr ⟨T,true,a1,⟨_,H _ _ t1 t3 t4 W⟩,t1,t2,t3,t4⟩,H _ _ D.TIz D.TIi1 D.TIi2 i,⟨_,_,H _ _ D.TOz D.TOi1 D.TOi2 g⟩,a3,S,dd l λo e=>H _ o D.l1z D.l1i1 D.l1i2 e,dd L λo e=>H _ o D.l2z D.l2i1 D.l2i2 e⟩ C n λc o c1 _ c3 c4 e=>H c o c1 c3 c4 e)
end
theorem vh:typeLookup (.type "zip") "__len__"=pure KF:=by(refine Z (Ta _ _) (Z Rw ?_));kernel_rfl
theorem r9:typeLookup (.type "zip") "__length_hint__"=pure KF:=by(refine Z (Ta _ _) (Z Rw ?_));kernel_rfl
noncomputable abbrev Ib(h:Heap)(l:Lb):Heap:=h.push {cls:=.type "tuple_iterator",data:=.fields #[.ref l,.int 0 0]}
noncomputable abbrev H8(h:Heap)(l L:Lb):Heap:=(Ib h l).push {cls:=.type "tuple_iterator",data:=.fields #[.ref L,.int 0 0]}
noncomputable abbrev Ik(h:Heap)(l L:Lb):Heap:=(H8 h l L).push {cls:=.type "tuple",data:=.seq #[.ref h.objs.size,.ref (Ib h l).objs.size]}
noncomputable abbrev Ia(h:Heap)(l L:Lb):Heap:=(Ik h l L).push {cls:=.type "tuple",data:=.seq #[.none,.none]}
noncomputable abbrev F4(h:Heap)(l L:Lb):Heap:=(Ia h l L).push {cls:=.type "zip",data:=.fields #[.none,.bool false,.bool false,.ref (H8 h l L).objs.size,.ref (Ik h l L).objs.size]}
theorem lA(l L:Lb)(xs ys:Array KI):
  Meets (Builtin.«zip.__new__» ⟨[.type "zip",.ref l,.ref L],[]⟩) (λ_ R s=>s.heap.IsTuple l xs/\s.heap.IsTuple L ys/\
   R (.ok (.ret (.ref (Ia s.heap l L).objs.size))) {s with heap:=F4 s.heap l L}):=
 .of_wp λprog w A R s h=>by
  obtain⟨p,g,d,tk,os⟩:=s;refine cH h λH a h=>?_;have B:=sub_zip;have b:SH (Sk ⟨p.push {cls:=.type "tuple_iterator",data:=.fields #[.ref l,.int 0 0]},g,d,tk,os⟩) L ys:=Th a _
  wp_walk using PF (H:SH (Sk ⟨p,g,d,tk,os⟩) l xs),PF b
  exact⟨_,rfl,h⟩
section
variable {A:Around}
theorem yh{n l L:Lb}(h:l<n)(H:L<n):Ol (n+4) (n+2) (n+3) n (n+1) l L:=Tm h H
theorem mo{Q:KI->K2->Prop}(H:s.heap.IsTuple l xs)(b:s.heap.IsTuple L ys)
  (h:∀h' z TI TO i I,Ol z TI TO i I l L->Cj h' z TI TO i I l L xs ys 0->qi h' z TI TO .none (.bool false)->s.heap.objs.size<=z->s.heap.objs.size<=TO->s.heap.objs.size<=i->s.heap.objs.size<=I->
   (∀c o,s.heap.get? c=U o->h'.get? c=U o)->Q (.ref z) {s with heap:=h'}):
  KV (K5 prog w) A (call (.type "zip") [.ref l,.ref L]) Q E s:=by
 refine callType_new F.called_zip rfl (F.typeCall_zip_2 _ _) (F.newCall_zip_2 _ _) (λobj=>F.args_object_init_3 obj _ _) F.entry_zip_new
  (lA l L xs ys) (EC H b (?_));have d:(Ib s.heap l).objs.size=s.heap.objs.size+1:=MJ ..;have f:(H8 s.heap l L).objs.size=s.heap.objs.size+2:=by(rw[MJ];exact Z d rfl)
 have j:(Ik s.heap l L).objs.size=s.heap.objs.size+3:=by(rw[MJ];exact Z f rfl)
 have m:(Ia s.heap l L).objs.size=s.heap.objs.size+4:=by(rw[MJ];exact Z j rfl)
 have g:(F4 s.heap l L).get? (Ia s.heap l L).objs.size=U _:=KY _ rfl;have G:(F4 s.heap l L).get? (Ik s.heap l L).objs.size=U _:=KT _ (KY _ rfl);have n:(F4 s.heap l L).get? (H8 s.heap l L).objs.size=U _:=KT _ (KT _ (KY _ rfl));have p:(F4 s.heap l L).get? (Ib s.heap l).objs.size=U _:=KT _ (KT _ (KT _ (KY _ rfl)));refine(?_ :_/\_);rw[f,j,m] at g;rw[d,f] at n;rw[j] at G;rw[d] at p;refine Z m ?_;have k:∀c o,s.heap.get? c=U o->(F4 s.heap l L).get? c=U o:=λc o x=>
  KT _ (KT _ (KT _ (KT _ (KT _ x))));have lt:∀{a:Lb} {xs:Array KI},s.heap.IsTuple a xs->a<s.heap.objs.size:=λ⟨o,e,_⟩=>Lh e;exact⟨⟨_,g,rfl⟩,h _ _ _ _ _ _ (yh (lt H) (lt b)) ⟨.inl ⟨g,rfl⟩,n,⟨_,_,G⟩,⟨_,(KT _ (KT _ (KT _ (KT _ (KY _ rfl)))):(F4 s.heap l L).get? s.heap.objs.size=U _),rfl,rfl⟩,⟨_,p,rfl,rfl⟩,dd H λo e=>k _ o e,dd b λo e=>k _ o e⟩ g
  (Lf _ _) (Lf _ _) (KX _) (Lf _ _) k⟩
inductive cC(h:Heap)(N₀:Nat):List KI->List (KI×KI)->Prop
 |nil:cC h N₀ [] []
 |cons {N:Lb} {x y:KI} {vs:List KI} {ps:List (KI×KI)}:N₀<=N->Nh h N x y->cC h N₀ vs ps->cC h N₀ (.ref N::vs) ((x,y)::ps)
theorem cC.push{vs:List KI}(p:cC h N₀ vs ps){N:Lb}{x y:KI}(H:N₀<=N)(n:Nh h N x y):cC h N₀ (vs++[.ref N]) (ps++[(x,y)]):=by
 induction p with
 |nil=>exact .cons H n .nil
 |cons a b _ i=>exact .cons a b i
theorem cC.keep{vs:List KI}(p:cC h N₀ vs ps)(k:∀a o,N₀<=a->h.get? a=U o->h'.get? a=U o):cC h' N₀ vs ps:=by
 induction p with
 |nil=>exact .nil
 |cons a b _ i=>exact .cons a (k _ _ a b) i
theorem cC.length{vs:List KI}(p:cC h N₀ vs ps):vs.length=ps.length:=by
 induction p with
 |nil=>rfl
 |cons _ _ _ i=>simp[i]
theorem cC.Ca{n:Nat}{vs:List KI}(p:cC h N₀ vs ps)(l:n<=N₀):cC h n vs ps:=by
 induction p with
 |nil=>exact .nil
 |cons a b _ i=>exact .cons (KB l a) b i
theorem Cj.keep{z TI TO i l L S:Lb}{k:Nat}(Z:Cj h z TI TO i I l L xs ys k)(s:S≠z/\S≠TI/\S≠TO/\S≠i/\S≠I/\S≠l/\S≠L)(y:∃o vs n,h.get? S=U o/\o.data=.seq vs n/\o.cls=.type "list")
  (N:∀T:Lb,(∃o,h.get? T=U o)->∃o,h'.get? T=U o)(e:∀a o,a≠S->h.get? a=U o->h'.get? a=U o):Cj h' z TI TO i I l L xs ys k:=by
 obtain⟨hz,H,⟨a,b,d⟩,j,m,f,g⟩:=Z;exact uD s λE p q t u v w=>⟨KS hz (λR=>ay R λhz K=>.inl ⟨e _ _ E.symm hz,K⟩) λc=>cR c λT b hz x r=>.inr ⟨T,b,e _ _ E.symm hz,N T x,r⟩,e _ _ p.symm H,⟨a,b,e _ _ q.symm d⟩,bE j λo=>e _ o t.symm,bE m λo=>e _ o u.symm,dd f λo=>e _ o v.symm,dd g λo=>e _ o w.symm⟩
theorem kI{a b:Type}{xs:List a}{ys:List b}{k:Nat}(h:xs[k]? =KF\/ys[k]? =KF):(xs.zip ys).take k=xs.zip ys:=by refine NF (Z R1 (KS h (λh=>?_) λh=>?_))<;>simp only[Qj] at h<;>lia
theorem pj{a b:Type}{xs:List a}{ys:List b}{k:Nat}{x:a}{y:b}(h:xs[k]? =U x)(H:ys[k]? =U y):(xs.zip ys).take (k+1)=(xs.zip ys).take k++[(x,y)]:=by
 have:(xs.zip ys)[k]? =U (x,y):=by simp only[Qi];exact⟨h,H⟩
 simp only[List.take_add_one,this];rfl
theorem eL{N₀:Nat}{a b:Lb}(h:b<N₀)(H:N₀<=a):a≠b:=λe=>by subst e;exact absurd h (Pm.mpr H)
theorem CF{R:Result->K2->Prop}{TI TO P S:Lb}{xs ys:Array KI}{res:KI}{N₀:Nat}(hh:A.handled=KF)(D:Ol z TI TO I m M P)(Q:S≠z/\S≠TI/\S≠TO/\S≠I/\S≠m/\S≠M/\S≠P)(hz:xs.size<=LG)
  (Ca:z<N₀/\TO<N₀/\I<N₀/\m<N₀/\S<N₀)(hR:∀h' vs c,h'.get? S=U {cls:=.type "list",dict:=KF,data:=.seq vs c,slots:=#[]}->cC h' N₀ vs.toList (xs.toList.zip ys.toList)->
   (∀a o,a≠z->a≠TO->a≠I->a≠m->a≠S->s.heap.get? a=U o->h'.get? a=U o)->R (.ok (.ret res)) {s with heap:=h'}):
  ∀(n k:Nat) (h:Heap) (vs:Array KI) (c:Nat),xs.size-k=n->k<=xs.size->N₀<=h.objs.size->Cj h z TI TO I m M P xs ys k->h.get? S=U {cls:=.type "list",dict:=KF,data:=.seq vs c,slots:=#[]}->
   cC h N₀ vs.toList ((xs.toList.zip ys.toList).take k)->(∀a o,a≠z->a≠TO->a≠I->a≠m->a≠S->s.heap.get? a=U o->h.get? a=U o)->
   OY (K5 prog w) A (.builtin "list.extend.loop" ⟨[.ref S,.ref z,res],[]⟩) R {s with heap:=h}:=by
 intro n;induction n with
 |zero=>
  intro k h vs c hn V hN ag g p K;refine O6 Rz (Z (NV MM _) (?_ :KV _ A.in1 (Oc (.ref z)>>=_) _ _ _));have W:xs[k]? =KF:=by rw[N'];lia
  refine KA (wM (s:={s with heap:=h}) hh D ag (λf h' H=>uD Q λE e2 r t u e6 e7=>pc Ca λB G J b4 b5=>?_) (λx y X=>by replace X:=W▸X;exact(nomatch X)));have d:xs.toList[k]? =KF\/ys.toList[k]? =KF:=by simpa using f
  simp only[kI d] at p;exact KL (hR h' vs c (H _ _ E r t u g) (p.keep λa o b e=>H a o (eL B b) (eL G b) (eL J b) (eL b4 b) e) λa o C i j l q e=>H a o C i j l (K a o C i j l q e))
 |succ n ih=>
  intro k h vs c hn V hN ag g p K;refine O6 Rz (Z (NV MM _) (?_ :KV _ A.in1 (Oc (.ref z)>>=_) _ _ _));have aa:=Q;refine uD Q λE e2 r t u e6 e7=>pc Ca λB G J b4 b5=>KA (wM (s:={s with heap:=h}) hh D ag (λf h' H=>?_) (λx y W hy h' N Z' hp ac H=>?_))
  ·have d:xs.toList[k]? =KF\/ys.toList[k]? =KF:=by simpa using f
   simp only[kI d] at p;exact KL (hR h' vs c (H _ _ E r t u g) (p.keep λa o b e=>H a o (eL B b) (eL G b) (eL J b) (eL b4 b) e) λa o C i j l q e=>H a o C i j l (K a o C i j l q e))
  ·have g':=H _ _ E r t u g
   refine(?_ :KV _ A.in1 (OK S (·.push (.ref N))>>=_) _ _ _);have L:=p.length;have v:vs.size<=k:=by simp only[Mv] at L;simp only[Le] at L;lia
   have NN:N₀<=N:=KB hN (ac:h.objs.size<=N);have up:∀a o,a≠S->h'.get? a=U o->(h'.update S (Obj.mapSeq (·.push (.ref N)))).get? a=U o:=λa o b e=>(L' _ _ b.symm).trans e;have gS:=LY (Obj.mapSeq (·.push (Mu N))) g' rfl;refine KA (Nb g' rfl (KL ⟨OD MM _,ih (k+1) _ (vs.push (.ref N)) _ (by omega) (by omega) (Z (Nk _ _ _) (KB NN (Lq (Lh hp)))) (Z'.keep aa ⟨_,_,_,g',rfl,rfl⟩ (λT hT=>?_) up) gS ?_ (λa o C i j l q e=>up _ _ q (H a o C i j l (K a o C i j l q e)))⟩) (bM (lP _ _ _ _) 0x78139813a9137a rfl hz V v) (((Z (PM _) (bM (lP _ _ _ _) 0x11371138139813a9137a rfl hz V v)):(vs.push (.ref N)).size<=LG+1)))
   ·by_cases c:T=S
    ·exact Z c ⟨_,gS⟩
    ·exact cV hT λo e=>⟨o,up _ _ c e⟩
   ·have X:xs.toList[k]? =U x:=by simpa using W
    have af:ys.toList[k]? =U y:=by simpa using hy
    exact Z (pj X af) (Z Pp ((p.keep λa o b e=>up _ _ (eL b5 b) (H a o (eL B b) (eL G b) (eL J b) (eL b4 b) e)).push NN (up _ _ (eL b5 NN:N≠S) hp)))
theorem z9{Q:Bool->K2->Prop}(h:s.TypeIs (.ref z) "zip")(q:Q true s):KV (K5 prog w) A (MW (.ref z)) Q E s:=by unfold MW;refine KA (O4 h vh (?_ :KV _ A (specialOf (Mu z) (KD "__length_hint__")>>=_) _ _ _));exact KA (O4 h r9 (KL q))
theorem AM{TI TO:Lb}{xs:Array KI}{Q:KI->K2->Prop}(hh:A.handled=KF)(hz:xs.size<=LG)(D:Ol z TI TO I t L J)(af:Cj s.heap z TI TO I t L J xs ys 0)(M:qi s.heap z TI TO .none (.bool false))
  (W:∀h' vs c,(∀a o,a≠z->a≠TO->a≠I->a≠t->s.heap.get? a=U o->h'.get? a=U o)->h'.get? s.heap.objs.size=U {cls:=.type "list",dict:=KF,data:=.seq vs c,slots:=#[]}->cC h' s.heap.objs.size vs.toList (xs.toList.zip ys.toList)->
   Q (.ref s.heap.objs.size) {s with heap:=h'}):KV (K5 prog w) A (call (.type "list") [.ref z]) Q E s:=by
 refine Tv (Q₁:=λobj f=>obj=.ref s.heap.objs.size/\f={s with heap:=s.heap.push {cls:=.type "list",data:=.seq #[]}}) RA (QP _) QQ
  (TN _ ⟨rfl,rfl⟩) λobj f u=>?_;obtain⟨rfl,rfl⟩:=u;obtain⟨ac,v,⟨a,b,i⟩,⟨o1,X,r1⟩,⟨o2,g2,r2⟩,⟨o3,g3,r3⟩,⟨o4,g4,r4⟩⟩:=id af;have lt:∀{a:Lb} {o:K4},s.heap.get? a=U o->s.heap.objs.size≠a:=λe=>NM (Lh e);have n:s.heap.objs.size≠z/\s.heap.objs.size≠TI/\s.heap.objs.size≠TO/\s.heap.objs.size≠I/\s.heap.objs.size≠t/\s.heap.objs.size≠L/\s.heap.objs.size≠J:=⟨lt M,lt v,lt i,lt X,lt g2,lt g3,lt g4⟩;have G:(s.heap.push {cls:=.type "list",data:=.seq #[]}).get? s.heap.objs.size=U {cls:=.type "list",data:=.seq #[]}:=KY _ rfl;refine⟨⟨_,G,rfl⟩,QF _ _,?_⟩;generalize j:s.heap.objs.size=S at n G W⊢;have kp:∀a o,s.heap.get? a=U o->(s.heap.push {cls:=.type "list",data:=.seq #[]}).get? a=U o:=λa o e=>KT _ e;have P:(s.heap.push {cls:=.type "list",data:=.seq #[]}).objs.size=S+1:=by simp only[MJ,j]
 refine((KA ?_):KV _ _ (do let u4<-Np (.ref S);Py (.ref S) (λ_=>#[]);letGo u4.toList.reverse;LQ (.ref S) (.ref z) .none) _ _ _);unfold Np;refine KA (Ma G rfl (KL ((KA (Nb G rfl ?_)):KV _ _ (OK S (λ_=>#[])>>=λ_=>letGo (#[]:Array KI).toList.reverse>>=λ_=>LQ (.ref S) (.ref z) .none) _ _ _)));have h:=LY (Obj.mapSeq (λ_=>(#[]:Array KI))) G rfl;generalize hH:(s.heap.push {cls:=.type "list",data:=.seq #[]}).update S (Obj.mapSeq (λ_=>(#[]:Array KI)))=N at h⊢;have k2:∀a o,a≠S->s.heap.get? a=U o->N.get? a=U o:=λa o x e=>hR hH ((L' _ _ x.symm).trans (kp a o e));refine KA (Ov ?_);have g:qi N z TI TO .none (.bool false):=k2 _ _ n.1.symm M;unfold LQ;refine KA (OV (T:="zip") ⟨_,g,rfl⟩ ?_);have h1:M' (.ref S) (.ref z)=false:=by simp[M',n.1]
 simp only[h1,(by decide:(MQ "zip"==MQ "list")=false),(by decide:(MQ "zip"==MQ "tuple")=false),Sw,LX,if_false];refine KA (wpAny_pyIter_zip g (KA (LJ (z9 ⟨_,g,rfl⟩ (O5 (λ_=>KA (Ok (KA ((KA (Nb h rfl ?_)):KV _ _ (OK S (·.push .none)>>=λ_=>OK S (·.pop)) _ _ _)))) (λaa=>absurd (by rfl) aa))))));have H:=LY (Obj.mapSeq (·.push L4)) h rfl;refine Nb (hz:=by seq_fits) H rfl ?_;have d:=LY (Obj.mapSeq (·.pop)) H rfl;generalize m:(N.update S (Obj.mapSeq (·.push L4))).update S (Obj.mapSeq (·.pop))=V at d⊢;have k:∀a o,a≠S->s.heap.get? a=U o->V.get? a=U o:=λa o x e=>hR m ((L' _ _ x.symm).trans ((L' _ _ x.symm).trans (k2 a o x e)));have y:V.objs.size=S+1:=by simp only[<-m,Nk,Nk,(by simp only[<-hH,Nk,P]:N.objs.size=S+1)]
 have Z3:Cj V z TI TO I t L J xs ys 0:=by exact uD n λq1 q2 q3 q4 q5 q6 q7=>⟨.inl ⟨k _ _ q1.symm M,rfl⟩,k _ _ q2.symm v,⟨a,b,k _ _ q3.symm i⟩,⟨o1,k _ _ q4.symm X,r1⟩,⟨o2,k _ _ q5.symm g2,r2⟩,⟨o3,k _ _ q6.symm g3,r3⟩,⟨o4,k _ _ q7.symm g4,r4⟩⟩
 have l:∀{a:Lb} {o:K4},s.heap.get? a=U o->a<S+1:=λe=>by have:=Lh e;rw[j] at this;exact Na this
 exact KL ⟨OD MM _,CF (prog:=prog) (w:=w) (A:=A.in1) (res:=.none) (R:=wants (λr B=>r=.none/\Q (.ref S) B) E) (s:=s) (N₀:=S+1) hh D n hz ⟨l M,l i,l X,l g2,LU _⟩ (λh' vs c C p K=>⟨rfl,W h' vs c (λa o c1 c2 c3 c4 e=>K a o c1 c2 c3 c4 (λq=>by clear K p C l y k d m H h1 k2 h hH P W G n;subst q;exact absurd (Lh e) (Z j (M5 _))) e) C (p.Ca (Lv S))⟩) _ 0 V #[] _ rfl (K3 _) (KQ y.symm) Z3 d .nil (λa o _ _ _ _ c5 e=>k a o c5 e)⟩
end
def e5(N:Nat){c:Type}:KasT c->(c->Prop)->Prop
 |.ret a,P=>P a
 |.ask i j k,P=>i<N/\j<N/\∀b,e5 N (k b) P
theorem e5.bind{c d:Type}{f:c->KasT d}{P:d->Prop}:∀{t:KasT c},e5 N t (λa=>e5 N (f a) P)->e5 N (t.bind f) P
 |.ret a,h=>h
 |.ask i j k,h=>⟨h.1,h.2.1,λb=>e5.bind (h.2.2 b)⟩
theorem e5.bv{c:Type}{P Q:c->Prop}(k:∀a,P a->Q a):∀{t:KasT c},e5 N t P->e5 N t Q
 |.ret a,h=>k a h
 |.ask i j _,h=>⟨h.1,h.2.1,λb=>e5.bv k (h.2.2 b)⟩
abbrev qb(N:Nat)(p:Array Nat):Prop:=p.Perm (Pt (LP N))
theorem qb.lt(h:qb N p)(pos:0<N)(i:Nat):p.getD i 0<N:=by
 by_cases c:i<p.size
 ·have e:p.getD i 0=p[i]:=by simp[S8,c]
  refine Z e ?_;simpa using(h.mem_iff.mp (Array.getElem_mem c))
 ·have e:p.getD i 0=0:=by simp[S8,c]
  exact Z e pos
section
variable {N:Nat} (pos:0<N)
include pos
theorem u3(h:qb N p):∀(f n:Nat),e5 N (kas_asc p f n) λ_=>True
 |0,n=>trivial
 |f+1,n=>⟨h.lt pos _,h.lt pos _,λb=>by
  try dsimp only
  split;·exact trivial
  ·exact u3 h f (n+1)⟩
theorem n8(h:qb N p)(i j:Nat):qb N (kas_rev p i j):=(mirror_perm _ _ _ _).trans h
theorem mT:∀(f:Nat) {p:Array Nat} (n q:Nat),qb N p->e5 N (kas_desc f p n q) λr=>qb N r.1
 |0,p,n,q,h=>h
 |f+1,p,n,q,h=>⟨h.lt pos _,h.lt pos _,λb=>by
  try dsimp only
  split
  ·split
   ·exact mT f _ _ (n8 pos h _ _)
   ·exact mT f _ _ h
  ·refine⟨h.lt pos _,h.lt pos _,λc=>?_⟩
   try dsimp only
   split;·exact h
   ·exact mT f _ _ h⟩
theorem wN(h:qb N p)(n m:Nat):e5 N (kas_tail3 n m p) λr=>qb N r.2:=
 e5.bind ((u3 pos (n8 pos h _ _) _ _).bv λ_ _=>n8 pos h _ _)
theorem lI(h:qb N p)(n m:Nat):e5 N (kas_descPart n m p) λr=>qb N r.2:=
 e5.bind ((mT pos _ _ _ h).bv λr H=>by
  try dsimp only
  split;·exact wN pos (n8 pos H _ _) _ _
  ·exact wN pos H _ _)
theorem Ap(h:qb N p)(m:Nat):e5 N (kas_count m p) λr=>qb N r.2:=
 e5.bind ((u3 pos h _ _).bv λn _=>by
  try dsimp only
  split;·exact h
  ·split
   ·refine⟨h.lt pos _,h.lt pos _,λc=>?_⟩
    try dsimp only
    split;·exact h
    ·exact lI pos (n8 pos h _ _) _ _
   ·exact lI pos h _ _)
theorem oG(h:qb N p)(k:Nat):∀(f l r:Nat),e5 N (kas_place p k f l r) λ_=>True
 |0,l,r=>trivial
 |f+1,l,r=>by
  unfold kas_place;split;·exact trivial
  ·refine⟨h.lt pos _,h.lt pos _,λb=>?_⟩
   try dsimp only
   split;·exact oG h k f _ _
   ·exact oG h k f _ _
theorem AV:∀(f:Nat) {p:Array Nat} (k:Nat),qb N p->e5 N (kas_bin f p k) (qb N)
 |0,p,k,h=>h
 |f+1,p,k,h=>e5.bind ((oG pos h _ _ _ _).bv λl _=>AV f _ ((bubble_perm _ _ _).trans h))
theorem BY:e5 N (kas_sort N) (qb N):=
 e5.bind ((Ap pos (TY _) _).bv λr h=>by
  try dsimp only
  split;·exact AV pos _ _ h
  ·exact h)
end
theorem e5.run{N:Nat}{d:Type}{P:d->Prop}{c:Nat->Nat->(Bool->K2->Prop)->K2->Prop}{Q:d->K2->Prop}{s:K2}(H:∀i j,i<N->j<N->∀C:Bool->K2->Prop,(∀b,C b s)->c i j C s):∀{t:KasT d},e5 N t P->(∀a,P a->Q a s)->t.kasWp c Q s
 |.ret a,h,q=>q a h
 |.ask i j k,h,q=>H i j h.1 h.2.1 _ λb=>e5.run H (h.2.2 b) q
section
variable {A:Around}
def hU(h:Heap)(v:KI):Prop:=∃a xs n,v=.ref a/\h.get? a=U {cls:=.type "tuple",data:=.seq xs n}/\xs≠#[]/\∀x∈xs.toList,∃i t,x=.int i t
theorem hU.keep(x:hU h v)(k:∀a o,h.get? a=U o->h'.get? a=U o):hU h' v:=let ⟨a,xs,n,e,g,r⟩:=x;⟨a,xs,n,e,k _ _ g,r⟩
theorem qt{c a:Type}{f:c->SV a}{P:a->Prop}:∀(l:List c) {Q:List a->K2->Prop},(∀v∈l,∀(q:a->K2->Prop),(∀r,P r->q r s)->KV M A (f v) q E s)->(∀R,R.length=l.length->(∀r∈R,P r)->Q R s)->KV M A (l.mapM f) Q E s:=by
 intro l;induction l with
 |nil=>intro _ _ h;simp only[List.mapM_nil];exact KL (h [] rfl λ_ h=>nomatch h)
 |cons x l i=>
  intro Q F h;refine Z List.mapM_cons (KA (F x (.head _) _ λr d=>KA (i (Q:=λbs s'=>KV M A (pure (r::bs)) Q E s') (λv V=>F v (.tail _ V)) λR L H=>KL (h _ (by simp[L]) λy b=>?_))));rcases KM.mp b with rfl |b
  ·exact d
  ·exact H y b
theorem Ao{vs:List KI}{Q:SortKind->K2->Prop}(u:2<=vs.length)(V:∀v∈vs,hU s.heap v)(q:∀b,Q (P1 b) s):KV (K5 prog w) A (keyKind' vs.toArray) Q E s:=by
 simp only[keyKind'_eq,Rn,map_eq_pure_bind];refine KA (KA (qt (P:=λr=>∃i t,r=U (Pw i t)) _ (λv H p k=>?_) (λR L m=>KL ?_)))
 ·refine rX (V v H) λa xs n c g N h=>?_;clear H;subst c
  simp only[kas_first_eq];refine KA (OV (T:="tuple") ⟨_,g,rfl⟩ (Z (if_neg (by decide)) (KA (listItems_at g rfl ?_))));have pos:0<xs.size:=Array.size_pos_iff.mpr N;exact g9 (h xs[0] (Array.getElem_mem_toList pos)) λi t e=>KL (k _ ⟨i,t,by refine hR e ?_;simp[pos]⟩)
 ·have all:(R.toArray.all λx=>x.isSome)=true:=by simp only[List.all_toArray,LS];intro x h;refine g9 (m x h) λi t d=>?_;clear h;subst d;rfl
  refine Z (if_pos all) (KA (Ok ?_));simp only[oneTypeOnly'_eq];refine KA (KA ?_);have F:∃l:List KI,(R.toArray.filterMap id)=l.toArray/\∀x∈l,∃i t,x=Pw i t:=by
   refine⟨R.filterMap id,by simp,λx h=>aD (Ny.mp h) λy o e=>g9 (m y o) λi t f=>?_⟩;clear o;subst f
   (replace e:=KC e;clear h;subst e)
   exact⟨i,t,rfl⟩
  refine aD F λl e L=>?_;simp only[e,Rn,map_eq_pure_bind];refine KA (qt (P:=λ_=>True) _ (λv H p k=>?_) (λR L m=>KL ?_))
  ·refine g9 (L v H) λi t j=>?_;clear H;subst j
   exact OV (T:="int") (typeIs_int _ _ _) (k _ trivial)
  ·split
   ·split
    ·exact KL (KL (q _))
    ·exact KL (KL (q _))
   ·exact KL (KL (q _))
theorem s1{cY:Bool}{Q:Bool->K2->Prop}(q:∀c,Q c s):∀(l:List (KI×KI)) (i:Nat),(∀p∈l,(∃i t,p.1=Pw i t)/\∃i t,p.2=Pw i t)->KatLex prog w A b cY Q l i s
 |[],i,_=>kat_nil (q _)
 |(x,y)::r,i,h=>by
  obtain⟨⟨m,t,e⟩,n,u,E⟩:=h _ KJ;simp only at e E;subst e E;refine kat_cons (wpAny_eqBool_int (kat_go (λ_=>kat_yes (s1 q r (i+1) λp H=>h p (KP _ H))) λ_=>kat_no ?_));induction B:(b&&i==0) with
  |true=>exact oneLt_int (q _)
  |false=>exact kat_one _ _ (wpAny_lt_int (q _))
theorem D7{Q:Bool->K2->Prop}(h:hU s.heap v)(H:hU s.heap u)(q:∀c,Q c s):KV (K5 prog w) A (keyLt' (P1 b) v u) Q E s:=by refine rX h λa xs n e g f x=>?_;clear h;subst e;refine rX H λc ys m d g' N y=>?_;clear H;subst d;refine kat_lt g rfl g' rfl (s1 q _ _ λp P=>?_);obtain⟨p1,i⟩:=p;have:=RZ P;exact⟨x _ this.1,y _ this.2⟩
theorem uY(vs:List KI):(LP vs.length).map (λi=>vs.getD i L4)=vs:=by refine RE (by simp) λi H h=>?_;simp[h]
theorem za{vs:List KI}(h:qb vs.length p):(p.toList.map λi=>vs.getD i L4).Perm vs:=by exact((by simpa using Array.perm_iff_toList_perm.mp h:p.toList.Perm (LP vs.length)).map _).trans (List.Perm.of_eq (uY vs))
theorem po{a:Lb}{vs:List KI}{P:Ti->K2->Prop}(l:s.heap.get? a=U (ME "list" vs.toArray n))(K:∀v∈vs,hU s.heap v)(m:vs.length<64)
  (h:∀out:List KI,out.Perm vs->P (.done (.ret .none)) {s with heap:=Sq s.heap a vs out.toArray}):
  KV (K5 prog w) A (Builtin.«list.sort» ⟨[.ref a],[]⟩) P E s:=by
 refine Z (list_sort_plain _) ?_;have x:a<s.heap.objs.size:=Lh l;refine KA (listItems_at l rfl ?_);refine KA (Q0 l rfl ?_);obtain⟨y,o⟩:∃y,(s.heap.update a (Obj.mapSeq λ_=>#[])).get? a=U (ME "list" #[] y):=⟨_,get?_update_seq l (λ_=>#[])⟩;refine KA (RT o rfl ?_);refine KA (QB ?_);refine KA (TG ?_);refine LJ ?_;have H:(((s.heap.update a (Obj.mapSeq λ_=>#[])).push (ME "tuple" vs.toArray 0)).push (ME "list" #[] 0)).get? a=U (ME "list" #[] y):=by refine Z (Ri _ _ _ (by rw[size_push',Nk];exact MS (Na x))) (Z (Ri _ _ _ (by refine Z (Nk _ _ _) ?_;exact MS x)) ?_);exact o
 refine(?_ :KV (K5 prog w) A _ P E {s with heap:=((s.heap.update a (Obj.mapSeq λ_=>#[])).push (ME "tuple" vs.toArray 0)).push (ME "list" #[] 0)});dsimp only;have hsz:vs.toArray.size=vs.length:=by simp
 have V:∀v∈vs,hU (((s.heap.update a (Obj.mapSeq λ_=>#[])).push (ME "tuple" vs.toArray 0)).push (ME "list" #[] 0)) v:=λv M=>by
  refine rv (K v M) λt xs k c g r=>?_;clear M;subst c;have N:t≠a:=λe=>by clear H o x h;subst e;have z:MQ "list"=MQ "tuple":=congrArg Q7 (KC (l.symm.trans g));injection z with z;exact absurd z (by decide)
  exact⟨t,xs,k,rfl,KT _ (KT _ ((L' _ _ N.symm).trans g)),r⟩
 by_cases f:vs.toArray.size<2
 ·refine Z (if_pos f) (Z (if_pos f) ?_)
  refine KA (KL ?_);refine Z (StateT.run_pure _ _) ?_;refine KA (KL ?_);dsimp only;refine KA (RT H rfl ?_);refine KA (Q0 H rfl ?_ (hsz2:=by refine Z Array.size_map ?_;refine(?_ :(Ps vs).size<=_);refine Z (pairsOf_size _) (Z NO ?_);exact bM (gF _ _) 0x7113010000006137813113823 rfl (KQ hsz.symm) f));simp only[bne_self_eq_false,LX,if_false];have e:(vs.toArray.zip vs.toArray).map (·.2)=vs.toArray:=by apply Rq.mp;simp[List.map_snd_zip]
  have:=h vs (N1 _);refine KL ?_;unfold Sq at this;refine Z e ?_;exact this
 ·refine Z (if_neg f) (Z (if_neg f) ?_)
  have u:2<=vs.length:=bM (gF _ _) 0x237138713238 rfl (KQ hsz) (RX f);refine KA (Ao (s:={s with heap:=((s.heap.update a (Obj.mapSeq λ_=>#[])).push (ME "tuple" vs.toArray 0)).push (ME "list" #[] 0)}) u V λb=>?_);have B:QR (P1 b) (vs.toArray.zip vs.toArray) #[] 7 KF=kas_st (P1 b) (Ps vs) (Pt (LP vs.length)):=by have e:=kas_range (Ps vs);rw[pairsOf_size] at e;refine(?_ :QR (P1 b) (Ps vs) #[] 7 KF=QR (P1 b) ((Pt (LP vs.length)).map (TA (Ps vs))) #[] 7 KF);exact Z e rfl
  have ask:(kas_sort vs.length).kasWp (kas_cmp prog w A (P1 b) (Ps vs)) (λp s'=>qb vs.length p/\s'={s with heap:=((s.heap.update a (Obj.mapSeq λ_=>#[])).push (ME "tuple" vs.toArray 0)).push (ME "list" #[] 0)})
    {s with heap:=((s.heap.update a (Obj.mapSeq λ_=>#[])).push (ME "tuple" vs.toArray 0)).push (ME "list" #[] 0)}:=by
   refine hR (kas_ask_eq _) ?_;refine e5.run (λi j I J C L=>?_) (BY (Lq ‹_›)) (λp D=>⟨D,rfl⟩);unfold kas_ask;have W:vs.getD i L4∈vs:=by
    have e:vs.getD i L4=vs[i]:=by simp[I]
    refine Z e ?_;exact Nl I
   have X:vs.getD j L4∈vs:=by
    have e:vs.getD j L4=vs[j]:=by simp[J]
    refine Z e ?_;exact Nl J
   exact D7 (s:={s with heap:=((s.heap.update a (Obj.mapSeq λ_=>#[])).push (ME "tuple" vs.toArray 0)).push (ME "list" #[] 0)}) (V _ W) (V _ X) L
  have run:=kas_runs (E:=E) (Q:=λ_ S s'=>∃p:Array Nat,qb vs.length p/\p.size=vs.length/\arrOf S=p.map (TA (Ps vs))/\failedOf S=KF/\s'={s with heap:=((s.heap.update a (Obj.mapSeq λ_=>#[])).push (ME "tuple" vs.toArray 0)).push (ME "list" #[] 0)})
   u m (λp' S s' a1 a2 a3 G=>⟨p',G.1,a1,a2,a3,G.2⟩) ask;simp only[<-B] at run;refine KA (K0 run ?_ λ_ _ e=>e);rintro⟨⟨⟩,S⟩ s' q;refine ii q λp D F R hf d=>?_;subst d;dsimp only;have T:(arrOf S).map (·.2)=Pt (p.toList.map λi=>vs.getD i L4):=by
   apply Rq.mp
   (refine Z R (Z Array.map_map ?_);refine Z Array.toList_map ?_)
   exact Mm λi _=>by refine(?_ :(TA (Ps vs) i).2=_);exact Z (kas_item_eq _ _) rfl
  refine Z T ?_;refine KA (RT H rfl ?_);refine KA (Q0 H rfl ?_ (hsz2:=by simp only[Rm,KE,Le,F,NO];exact bM (kT _) 0x7113010000006131137404 rfl m));refine Z hf ?_;simp only[bne_self_eq_false,LX,if_false];exact KL (h _ (za D))
theorem kq{x:KI}{vs:List KI}{Good:List KI->Prop}{Q:KI->K2->Prop}(hz:vs.length<=LG)
  (L:∀(A:NA) (Q:List KI->K2->Prop),A.handled=KF->(∀h t,(∀b o,s.heap.get? b=U o->h.get? b=U o)->Q vs {s with heap:=h,toks:=t})->KV (K5 prog w) A (collect x) Q E s)(c:A.handled=KF)
  (H:∀(A:NA) h t a (P:Ti->K2->Prop),(∀b o,s.heap.get? b=U o->h.get? b=U o)->h.get? a=U (ME "list" vs.toArray 0)->
   (∀out:Array KI,Good out.toList->P (.done (.ret .none)) {s with heap:=Sq h a vs out,toks:=t})->KV (K5 prog w) A (Builtin.«list.sort» ⟨[.ref a],[]⟩) P E {s with heap:=h,toks:=t})
  (q:∀h' D out e t,(∀b o,s.heap.get? b=U o->h'.get? b=U o)->s.heap.get? D=KF->h'.get? D=U (ME "list" out e)->Good out.toList->Q (.ref D) {s with heap:=h',toks:=t}):
  KV (K5 prog w) A (call (.builtin "sorted") [x]) Q E s:=by
 refine Calls.call_function_entry kind_sorted plain_sorted entry_sorted (args_sorted1 _) ?_;unfold Builtin.«sorted»;refine KA (m:=checkCount "sorted" 1 1 _) (KL (KA (L _ _ c λh t k=>KA (TG ?_ hz))));have l:(h.push (ME "list" vs.toArray 0)).get? h.objs.size=U (ME "list" vs.toArray 0):=KY _ rfl;have K:∀b o,s.heap.get? b=U o->(h.push (ME "list" vs.toArray 0)).get? b=U o:=λb o e=>KT _ (k b o e);refine(?_ :KV _ _ _ _ _ {s with heap:=h.push (ME "list" vs.toArray 0),toks:=t});refine KA (LJ (My slot_list_sort ⟨_,l,rfl⟩ entry_list_sort (H _ (h.push (ME "list" vs.toArray 0)) t h.objs.size _ K l λout g=>⟨_,rfl,?_⟩) (args_list_sort _)));have fr:s.heap.get? h.objs.size=KF:=by
  induction e:s.heap.get? h.objs.size with
  |none=>rfl
  |some o=>exact absurd (Lh (k _ _ e)) (M5 _)
 refine cV (sortedHeap_at (vs:=vs) (out:=out) l) λe d=>KL ⟨_,rfl,q _ _ out e t (λb o B=>?_) fr d g⟩;have lt:=Lh (k b o B);exact Z (sortedHeap_old (MS lt) (Z (MJ _ _) (Na lt))) (K b o B)
end
structure dz where
 prog:L6
 w:MP
 K:O0
 cls:String->Option Lb
 base:Heap
 gens:Array RR
 os:SF
 fn:String->Option Lb
 mg:KR->Option KI
 mb:KR->Option KI
 gJ:List String
structure Ad where
 f:cq->Lb
 z:Lb->Prop
def e3(H:Hp)(ad:Ad)(a:Lb):Prop:=∃r,(H.o r).isSome=true/\ad.f r=a
def jD(H:Hp)(ad:Ad)(a:Lb):Prop:=¬e3 H ad a/\¬ad.z a
inductive eO{c d:Type}(R:c->d->Prop):List c->List d->Prop
 |nil:eO R [] []
 |cons {a b l r}:R a b->eO R l r->eO R (a::l) (b::r)
theorem eO.bv{c d:Type}{R S:c->d->Prop}{l:List c}{r:List d}(h:eO R l r)(f:∀a b,R a b->S a b):eO S l r:=by
 induction h with
 |nil=>exact .nil
 |cons h _ i=>exact .cons (f _ _ h) i
theorem eO.length{a b:Type}{R:a->b->Prop}{l:List a}{r:List b}(h:eO R l r):l.length=r.length:=by
 induction h with
 |nil=>rfl
 |cons _ _ i=>simp[i]
inductive HU(c:String)(H:Hp)(ad:Ad)(h:Heap)(P:List KI->Prop)(x:KI):Prop
 |mk (a:Lb) (xs:Array KI) (n:Nat) (e:x=.ref a) (i:jD H ad a) (g:h.get? a=U {cls:=.type c,data:=.seq xs n}) (z:xs.size<=LG) (r:P xs.toList)
inductive I1(H:Hp)(ad:Ad)(h:Heap)(k:Option Lb)(r:cq)(x:KI):Prop
 |mk (a c:Lb) (e:x=.ref a) (i:jD H ad a) (C:k=U c) (g:h.get? a=U (NY c (ad.f r))) (l:r.n<H.n)
inductive IR(H:Hp)(ad:Ad)(h:Heap)(n:Int)(x:KI):Prop
 |mk (a:Lb) (t u v:Nat) (e:x=.ref a) (i:jD H ad a) (g:IsRange h a 0 n 1 t u v) (l:0<=n/\n<=aN)
inductive G'(P:KI->Prop)(Q:List KI->Prop)(xs:List KI):Prop
 |mk (x:KI) (r:List KI) (e:xs=x::r) (p:P x) (q:Q r)
section
variable (κ:dz)
mutual
def aJ(H:Hp)(ad:Ad)(h:Heap):V->KI->Prop
 |.none,x=>x=.none
 |.bool b,x=>x=.bool b
 |.int i,x=>∃t,x=.int i t
 |.str s,x=>∃t,x=.str (KD s) t
 |.aA l,x=>HU "tuple" H ad h (aF H ad h l) x
 |.fl l,x=>HU "list" H ad h (aF H ad h l) x
 |.eQ C r,x=>I1 H ad h (κ.cls C) r x
 |.ref r,x=>x=.ref (ad.f r)/\r.n<H.n
 |.yB n,x=>IR H ad h n x
def aF(H:Hp)(ad:Ad)(h:Heap):List V->List KI->Prop
 |[],xs=>xs=[]
 |v::l,xs=>G' (aJ H ad h v) (aF H ad h l) xs
end
def cv(o:K4):Prop:=(∃es n,o.data=.dict es n)\/∃v,o.data=.cell v
structure Step(X:Lb->Prop)(ad:Ad)(H:Hp)(h:Heap)(ad':Ad)(H':Hp)(h':Heap):Prop where
 keep:∀b o,h.get? b=U o->¬e3 H ad b->(X b->¬cv o)->h'.get? b=U o
 ext:∀r,r.n<H.n->ad'.f r=ad.f r
 z:ad'.z=ad.z
 fresh:∀r,(H'.o r).isSome=true->r.n<H'.n->((H.o r).isSome=true/\r.n<H.n)\/(H.n<=r.n/\h.get? (ad'.f r)=KF)
 n:H.n<=H'.n
 e4:∀r,r.n<H.n->H.e4 r<=H'.e4 r
 same:∀r,r.n<H.n->(H.o r).isSome=true->(H'.o r).isSome=true->H'.e4 r=H.e4 r->H'.o r=H.o r/\h'.get? (ad.f r)=h.get? (ad.f r)
 bv:∀b o,h.get? b=U o->∃a,h'.get? b=U a
noncomputable def dX.toV:dX->V
 |.int i=>.int i
 |.gH l=>.aA (ae l)
noncomputable def bQ.toV(k:bQ):V:=.aA [.str k.op,.aA (ae k.args),.int k.pq,k.data.toV]
inductive Jj(h:Heap)(a:Lb)(P:List KI->Prop):Prop
 |mk (vs:Array KI) (n:Nat) (g:h.get? a=U {cls:=.type "list",data:=.seq vs n}) (z:vs.size<=LG) (r:P vs.toList)
inductive BN{a:Type}(D R:List a->Prop):Prop
 |mk (k:List a) (d:D k) (f:R k)
def ik(H:Hp)(ad:Ad)(h:Heap)(a:Lb):Obj->Prop
 |.list xs=>Jj h a (aF κ H ad h xs)
 |.dI es=>BN (h.DictOf (Mq κ.prog κ.w) a) (eO (λe f=>e.1=f.1/\aJ κ H ad h e.2 f.2) es)
 |.dS es=>BN (h.DictOf (L5 κ.prog κ.w) a) (eO (λe f=>KD e.1=f.1/\aJ κ H ad h e.2 f.2) es)
 |.dP es=>BN (h.DictOfH (tK κ.prog κ.w) a) (eO (λe f=>e.1=f.1/\jD H ad f.2.1/\aJ κ H ad h e.2 f.2.2) es)
 |.dN es=>BN (h.DictOfH (nK κ.prog κ.w) a) (eO (λe f=>e.1=f.1/\aJ κ H ad h e.1.toV (.ref f.2.1)/\aJ κ H ad h e.2 f.2.2) es)
structure bf(H:Hp)(ad:Ad)(s:K2):Prop where
 base:∀b o,κ.base.get? b=U o->s.heap.get? b=U o
 gens:s.gens=κ.gens
 os:s.os=κ.os
 au:∀r,(H.o r).isSome=true->r.n<H.n
 inj:∀r q,(H.o r).isSome=true->(H.o q).isSome=true->ad.f r=ad.f q->r=q
 new:∀r,(H.o r).isSome=true->κ.base.get? (ad.f r)=KF
 obj:∀r o,H.o r=U o->ik κ H ad s.heap (ad.f r) o
 zf:∀a,ad.z a->¬e3 H ad a
 k7:∀a,ad.z a->∃o,s.heap.get? a=U o
 zb:∀a,ad.z a->κ.base.get? a=KF
end
variable {κ:dz} {X:Addr->Prop} {ad ad' Um:Ad} {H H' Uj:Hp} {Un:Heap}
section
variable {T0:Addr->Prop} {h:Heap}
theorem ik.ex{a:Lb}{o:Obj}(r:ik κ H ad h a o):∃b,h.get? a=U b:=by
 cases o with
 |list xs=>obtain⟨vs,n,e,_⟩:=r;exact⟨_,e⟩
 |dI es=>obtain⟨k,⟨o,_,_,e,_⟩,_⟩:=r;exact⟨_,e⟩
 |dS es=>obtain⟨k,⟨o,_,_,e,_⟩,_⟩:=r;exact⟨_,e⟩
 |dP es=>obtain⟨k,⟨o,_,_,e,_⟩,_⟩:=r;exact⟨_,e⟩
 |dN es=>obtain⟨k,⟨o,_,_,e,_⟩,_⟩:=r;exact⟨_,e⟩
theorem bf.cZ(R:bf κ H ad s){a:Lb}(l:e3 H ad a):∃b,s.heap.get? a=U b:=by obtain⟨r,h,rfl⟩:=l;obtain⟨o,c⟩:=LK.mp h;exact(R.obj r o c).ex
theorem Step.refl:Step X ad H h ad H h:=
 ⟨λ_ _ e _ _=>e,λ_ _=>rfl,rfl,λ_ e n=>.inl ⟨e,n⟩,KX _,λ_ _=>KX _,λ_ _ _ _ _=>⟨rfl,rfl⟩,λ_ o e=>⟨o,e⟩⟩
abbrev bS(H:Hp):Prop:=∀r,(H.o r).isSome=true->r.n<H.n
theorem Step.mM(S:Step X ad H h ad' H' h')(st:bS H'){b:Lb}{o:K4}(e:h.get? b=U o)(n:¬e3 H ad b):¬e3 H' ad' b:=by
 rintro⟨r,R,rfl⟩;rcases S.fresh r R (st r R) with⟨h1,a⟩ |h1
 ·exact n ⟨r,h1,(S.ext r a).symm⟩
 ·rw[h1.2] at e;cases e
theorem Step.rs(S:Step X ad H h ad' H' h')(st:bS H'){b:Lb}{o:K4}(e:h.get? b=U o)(i:jD H ad b):jD H' ad' b:=
 ⟨S.mM st e i.1,by rw[S.z];exact i.2⟩
theorem Step.trans(S:Step X ad H h ad' H' h')(T:Step X ad' H' h' Um Uj Un)(st:bS H'):Step X ad H h Um Uj Un where
 keep:=λb o e N nx=>T.keep b o (S.keep b o e N nx) (S.mM st e N) nx
 ext:=λr R=>(T.ext r (K6 R S.n)).trans (S.ext r R)
 z:=T.z.trans S.z
 fresh:=λr R j=>by
  rcases T.fresh r R j with⟨h1,g⟩ |h1
  ·rw[T.ext r g]
   exact S.fresh r h1 g
  ·refine .inr ⟨KB S.n h1.1,?_⟩
   cases e:h.get? (Um.f r) with
   |none=>rfl
   |some o=>obtain⟨i,E⟩:=S.bv _ _ e;rw[h1.2] at E;cases E
 n:=KB S.n T.n
 e4:=λr R=>KB (S.e4 r R) (T.e4 r (K6 R S.n))
 same:=λr R k g e=>by
  have f:=K6 R S.n;have v:=S.e4 r R;have V:=T.e4 r f;have l:H'.e4 r=H.e4 r:=by omega
  have m:Uj.e4 r=H'.e4 r:=by omega
  have h1:(H'.o r).isSome=true:=by
   rcases T.fresh r g (K6 f T.n) with⟨a,_⟩ |⟨a,_⟩
   ·exact a
   ·omega
  obtain⟨a,b⟩:=T.same r f h1 g m;obtain⟨c,d⟩:=S.same r R k h1 l;rw[S.ext r R] at b;exact⟨a.trans c,b.trans d⟩
 bv:=λb o e=>let ⟨i,E⟩:=S.bv b o e;T.bv b i E
theorem Step.bU(S:Step X ad H h ad' H' h')(k:∀a,X a->T0 a):Step T0 ad H h ad' H' h':=
 ⟨λb o e n nx=>S.keep b o e n λx=>nx (k _ x),S.ext,S.z,S.fresh,S.n,S.e4,S.same,S.bv⟩
theorem h5{o:K4}{xs n}(e:o.data=.seq xs n):¬cv o:=by rintro(⟨es,m,d⟩ |⟨v,d⟩)<;>rw[e] at d<;>cases d
theorem AQ{o:K4}(e:o.data=.plain):¬cv o:=by rintro(⟨es,m,d⟩ |⟨v,d⟩)<;>rw[e] at d<;>cases d
theorem k5{o:K4}{xs}(e:o.data=.fields xs):¬cv o:=by rintro(⟨es,m,d⟩ |⟨v,d⟩)<;>rw[e] at d<;>cases d
structure fJ(ad:Ad)(H:Hp)(h:Heap)(ad':Ad)(H':Hp)(h':Heap):Prop where
 rs:∀b o,h.get? b=U o->¬cv o->jD H ad b->jD H' ad' b/\h'.get? b=U o
 ext:∀r,r.n<H.n->ad'.f r=ad.f r
 n:H.n<=H'.n
theorem Step.aL(S:Step X ad H h ad' H' h')(st:bS H'):fJ ad H h ad' H' h':=
 ⟨λb o e f i=>⟨S.rs st e i,S.keep b o e i.1 λ_=>f⟩,S.ext,S.n⟩
end
section
variable {T0:Addr->Prop} {h:Heap} (S:fJ ad H h ad' H' h')
include S
mutual
theorem aJ.aL:∀{v:V} {x:KI},aJ κ H ad h v x->aJ κ H' ad' h' v x
 |.none,x,e=>e
 |.bool b,x,e=>e
 |.int i,x,e=>e
 |.str i,x,e=>e
 |.aA l,x,e=>by
  obtain⟨a,xs,n,E,d,f,k,j⟩:=e
  obtain⟨i,g⟩:=S.rs _ _ f (h5 rfl) d
  exact⟨a,xs,n,E,i,g,k,aF.aL j⟩
 |.fl l,x,e=>by
  obtain⟨a,xs,n,E,d,f,k,j⟩:=e
  obtain⟨i,g⟩:=S.rs _ _ f (h5 rfl) d
  exact⟨a,xs,n,E,i,g,k,aF.aL j⟩
 |.eQ C r,x,e=>by
  obtain⟨a,c,E,d,f,j,k⟩:=e
  obtain⟨i,g⟩:=S.rs _ _ j (AQ rfl) d
  exact⟨a,c,E,i,f,by rw[S.ext r k];exact g,K6 k S.n⟩
 |.ref r,x,e=>by
  exact⟨by rw[S.ext r e.2];exact e.1,K6 e.2 S.n⟩
 |.yB r,x,e=>by
  obtain⟨a,t,u,v,E,d,f,j⟩:=e
  obtain⟨i,g⟩:=S.rs _ _ f (k5 rfl) d
  exact⟨a,t,u,v,E,i,g,j⟩
theorem aF.aL:∀{l:List V} {xs:List KI},aF κ H ad h l xs->aF κ H' ad' h' l xs
 |[],xs,e=>e
 |v::l,xs,e=>by
  obtain⟨x,r,E,d,f⟩:=e
  exact⟨x,r,E,aJ.aL d,aF.aL f⟩
end
end
section
variable {T0:Addr->Prop} {h:Heap}
theorem aJ.step(S:Step X ad H h ad' H' h')(st:bS H'){x:KI}(e:aJ κ H ad h v x):aJ κ H' ad' h' v x:=e.aL (S.aL st)
theorem aF.step(S:Step X ad H h ad' H' h')(st:bS H'){x:List KI}(e:aF κ H ad h v x):aF κ H' ad' h' v x:=e.aL (S.aL st)
theorem aF.length{l:List V}:∀{xs:List KI},aF κ H ad h l xs->l.length=xs.length:=by
 induction l with
 |nil=>intro xs e;obtain rfl:xs=[]:=e;rfl
 |cons v l i=>intro xs e;obtain⟨x,r,rfl,_,e⟩:=e;exact congrArg (·+1) (i e)
theorem aF.append{l L:List V}:∀{xs ys:List KI},aF κ H ad h l xs->aF κ H ad h L ys->aF κ H ad h (l++L) (xs++ys):=by
 induction l with
 |nil=>intro xs ys e f;obtain rfl:xs=[]:=e;exact f
 |cons v l i=>intro xs ys e f;obtain⟨x,r,rfl,E,e⟩:=e;exact⟨x,r++ys,rfl,E,i e f⟩
theorem aF.get{l:List V}:∀{xs:List KI} {i:Nat} {v:V},aF κ H ad h l xs->l[i]? =U v->∃x,xs[i]? =U x/\aJ κ H ad h v x:=by
 induction l with
 |nil=>intro xs i v e f;exact al f
 |cons u l I=>
  intro xs i v e f;obtain⟨x,r,rfl,E,e⟩:=e;cases i with
  |zero=>exact⟨x,rfl,KC f▸E⟩
  |succ i=>have q:=I (i:=i) (v:=v) e f;exact q
theorem aF.take{l:List V}:∀{xs:List KI} (n:Nat),aF κ H ad h l xs->aF κ H ad h (l.take n) (xs.take n):=by
 induction l with
 |nil=>intro xs n e;obtain rfl:xs=[]:=e;rw[Su,Su];exact rfl
 |cons u l i=>
  intro xs n e;obtain⟨x,r,rfl,E,e⟩:=e;cases n with
  |zero=>exact rfl
  |succ n=>exact⟨x,_,rfl,E,i n e⟩
theorem aF.dropLast{l:List V}(e:aF κ H ad h l xs):aF κ H ad h l.dropLast xs.dropLast:=by rw[QL,QL,e.length];exact e.take _
theorem aF.reverse{l:List V}:∀{xs:List KI},aF κ H ad h l xs->aF κ H ad h l.reverse xs.reverse:=by
 induction l with
 |nil=>intro xs e;obtain rfl:xs=[]:=e;exact rfl
 |cons u l i=>intro xs e;obtain⟨x,r,rfl,E,e⟩:=e;rw[Pv,Pv];exact(i e).append ⟨x,[],rfl,E,rfl⟩
theorem aF.ints{l:List Int}:∀{xs:List KI},aF κ H ad h (ae l) xs↔RP (Mq κ.prog κ.w) l xs:=by
 induction l with
 |nil=>intro xs;exact⟨λe=>by obtain rfl:xs=[]:=e;exact .nil,λe=>by cases e;rfl⟩
 |cons i l I=>
  intro xs;constructor;·rintro⟨x,r,rfl,⟨t,rfl⟩,e⟩;exact .cons (Nq _ _ _ _) (I.mp e)
  ·intro e
   cases e with
   |@cons k v K vs a b=>refine⟨v,vs,rfl,?_,I.mpr b⟩;cases v<;>simp[Mq,Value.isInt] at a;exact⟨_,by rw[a]⟩
theorem jq:∀{l:List V} {I:List Int},iH l=U I->l=ae I
 |[],I,e=>by obtain rfl:=KC e;rfl
 |v::r,I,e=>by obtain⟨i,h,e⟩:=bG e;obtain⟨l,H,rfl⟩:=fz e;refine Z (c2 h) (Z (jq H) ?_);rfl
theorem aJ.tk{l:List Int}{x:KI}(e:aJ κ H ad h (.aA (ae l)) x):∃a,x=.ref a/\js κ.prog κ.w h l a:=by obtain⟨a,xs,n,rfl,i,g,z,f⟩:=e;exact⟨a,rfl,xs,n,g,z,aF.ints.mp f⟩
theorem aJ.nk{k:bQ}{x:KI}(e:aJ κ H ad h k.toV x):∃a,x=.ref a/\kr κ.prog κ.w h k a:=by
 unfold bQ.toV at e;obtain⟨a,xs,n,rfl,i,g,z,f,r,E,⟨t,rfl⟩,X,R,rfl,d,j,m,rfl,⟨u,rfl⟩,x3,o,rfl,c,rfl⟩:=e;obtain⟨b,rfl,K⟩:=aJ.tk (show aJ κ H ad h (.aA (ae k.args)) X from d);refine⟨a,rfl,xs,n,g,z,t,b,u,x3,E,K,?_⟩;cases hd:k.data with
 |int i=>rw[hd] at c;exact c
 |gH l=>rw[hd] at c;exact aJ.tk c
theorem ik.aL(S:fJ ad H h ad' H' h'){a:Lb}(e:h'.get? a=h.get? a):∀{o:Obj},ik κ H ad h a o->ik κ H' ad' h' a o
 |.list xs,r=>by obtain⟨vs,n,q,z,f⟩:=r;exact⟨vs,n,e.trans q,z,f.aL S⟩
 |.dI es,r=>by obtain⟨K,⟨o,E,ep,q,R⟩,f⟩:=r;exact⟨K,⟨o,E,ep,e.trans q,R⟩,f.bv λ_ _ p=>⟨p.1,p.2.aL S⟩⟩
 |.dS es,r=>by obtain⟨K,⟨o,E,ep,q,R⟩,f⟩:=r;exact⟨K,⟨o,E,ep,e.trans q,R⟩,f.bv λ_ _ p=>⟨p.1,p.2.aL S⟩⟩
 |.dP es,r=>by
  obtain⟨K,⟨o,E,ep,q,hx,hd,b,i,N⟩,f⟩:=r;have key:∀x∈K,jD H ad x.2.1:=by
   clear b i N hd hx q;induction f with
   |nil=>intro x hx;cases hx
   |cons p _ I=>
    intro x hx;rcases KM.mp hx with rfl |hx
    ·exact p.2.1
    ·exact I x hx
  refine⟨K,⟨o,E,ep,e.trans q,hx,hd,b,λx hx=>?_,N⟩,?_⟩
  ·obtain⟨xs,n,g,z,j⟩:=i x hx
   exact⟨xs,n,(S.rs _ _ g (h5 rfl) (key x hx)).2,z,j⟩
  ·have ex:∀x∈K,∃B,h.get? x.2.1=U B/\¬cv B:=λx hx=>let ⟨_,_,g,_⟩:=i x hx;⟨_,g,h5 rfl⟩
   clear b i N hd hx q key;induction f with
   |nil=>exact .nil
   |@cons p y l r P _ I=>obtain⟨B,c,d⟩:=ex y KJ;exact .cons ⟨P.1,(S.rs _ _ c d P.2.1).1,P.2.2.aL S⟩ (I λx hx=>ex x (KP _ hx))
 |.dN es,r=>by
  obtain⟨K,⟨o,E,ep,q,hx,hd,b,i,N⟩,f⟩:=r;have F:=f.bv λe g (p:e.1=g.1/\aJ κ H ad h e.1.toV (.ref g.2.1)/\aJ κ H ad h e.2 g.2.2)=>(⟨p.1,p.2.1.aL S,p.2.2.aL S⟩:e.1=g.1/\aJ κ H' ad' h' e.1.toV (.ref g.2.1)/\aJ κ H' ad' h' e.2 g.2.2);refine⟨K,⟨o,E,ep,e.trans q,hx,hd,b,?_,N⟩,F⟩;clear b i N hd hx q f;induction F with
  |nil=>intro x hx;cases hx
  |cons p _ I=>
   intro x hx;rcases KM.mp hx with rfl |hx
   ·obtain⟨a,A,k⟩:=p.2.1.nk
    cases A;rw[<-p.1];exact k
   ·exact I x hx
theorem Step.keeps(k:∀b o,h.get? b=U o->h'.get? b=U o)(l:∀r,(H.o r).isSome=true->∃o,h.get? (ad.f r)=U o):Step X ad H h ad H h':=
 ⟨λb o e _ _=>k b o e,λ_ _=>rfl,rfl,λ_ e n=>.inl ⟨e,n⟩,KX _,λ_ _=>KX _,λr _ e _ _=>⟨rfl,by obtain⟨o,q⟩:=l r e;rw[q];exact k _ _ q⟩,λb o e=>⟨o,k b o e⟩⟩
theorem bf.keeps{s':K2}(R:bf κ H ad s)(k:∀b o,s.heap.get? b=U o->s'.heap.get? b=U o)(h:s'.gens=s.gens)(c:s'.os=s.os):bf κ H ad s' where
 base:=λb o e=>k _ _ (R.base b o e)
 gens:=h.trans R.gens
 os:=c.trans R.os
 au:=R.au
 inj:=R.inj
 new:=R.new
 obj:=λr o e=>by have q:=R.obj r o e;obtain⟨B,g⟩:=q.ex;exact q.aL ((Step.keeps (X:=λ_=>False) k λr e=>R.cZ ⟨r,e,rfl⟩).aL R.au) ((k _ _ g).trans g.symm)
 zf:=R.zf
 k7:=λa q=>let ⟨o,e⟩:=R.k7 a q;⟨o,k _ _ e⟩
 zb:=R.zb
theorem bf.cX{s':K2}(R:bf κ H ad s)(k:∀b o,s.heap.get? b=U o->s'.heap.get? b=U o):Step X ad H s.heap ad H s'.heap:=
 Step.keeps k λr e=>R.cZ ⟨r,e,rfl⟩
theorem bf.toks(R:bf κ H ad s)(t:Nat):bf κ H ad {s with toks:=t}:=
 ⟨R.base,R.gens,R.os,R.au,R.inj,R.new,R.obj,R.zf,R.k7,R.zb⟩
theorem Hp.dJ{r:cq}{x:Obj}(st:bS H)(R:(H.o r).isSome=true):bS (H.set r x):=by
 intro q h;refine(?_ :q.n<H.n);by_cases e:q=r;·clear h;subst e;exact st _ R
 ·refine st q ?_
  simpa[Hp.set,e] using h
theorem Hp.gg{r:cq}{x:Obj}(R:(H.o r).isSome=true){a:Lb}:e3 (H.set r x) ad a↔e3 H ad a:=by
 constructor
 ·rintro⟨q,h,rfl⟩
  by_cases e:q=r;·subst e;exact⟨q,R,rfl⟩
  ·exact⟨q,by simpa[Hp.set,e] using h,rfl⟩
 ·rintro⟨q,h,rfl⟩
  refine⟨q,?_,rfl⟩;by_cases e:q=r;·simp[Hp.set,e]
  ·simpa[Hp.set,e] using h
set_option tactic.hygienic true in
theorem bf.kP(R:bf κ H ad s){r:cq}{x:Obj}(h:(H.o r).isSome=true)(S:MC (ad.f r) s.heap h')(E:∃o,h'.get? (ad.f r)=U o):Step X ad H s.heap ad (H.set r x) h' where
 keep:=λb o e N _=>(S.2 b λq=>N ⟨r,h,q.symm⟩).trans e
 ext:=λ_ _=>rfl
 z:=rfl
 fresh:=λq e n=>by
  refine .inl ⟨?_,n⟩
  by_cases c:q=r
  ·subst c;exact h
  ·simpa[Hp.set,c] using e
 n:=KX _
 e4:=λq _=>by
  show H.e4 q<=if q=r then H.e4 r+1 else H.e4 q
  split
  ·rename_i c;subst c;omega
  ·exact KX _
 same:=λq _ Q _ e=>by
  have c:q≠r:=by
   rintro rfl
   simp[Hp.set] at e
  exact⟨by simp[Hp.set,c],S.2 _ λz=>c (R.inj _ _ Q h z)⟩
 bv:=λb o e=>by
  by_cases c:b=ad.f r
  ·rw[c];exact E
  ·exact⟨o,(S.2 b c).trans e⟩
theorem bf.zE(R:bf κ H ad s){r:cq}{x:Obj}(h:(H.o r).isSome=true)(S:MC (ad.f r) s.heap h')(d:ik κ (H.set r x) ad h' (ad.f r) x)(t:Nat):
  bf κ (H.set r x) ad {s with heap:=h',toks:=t} where
 base:=λb o e=>(S.2 b λq=>by subst q;rw[R.new r h] at e;cases e).trans (R.base b o e)
 gens:=R.gens
 os:=R.os
 au:=Hp.dJ R.au h
 inj:=λp q P Q e=>by
  have f:∀z,((H.set r x).o z).isSome=true->(H.o z).isSome=true:=λz hz=>by
   by_cases c:z=r;·subst c;exact h
   ·simpa[Hp.set,c] using hz
  exact R.inj p q (f p P) (f q Q) e
 new:=λq Q=>by
  by_cases c:q=r;·subst c;exact R.new _ h
  ·exact R.new q (by simpa[Hp.set,c] using Q)
 obj:=λq o e=>by
  by_cases c:q=r
  ·subst c
   simp[Hp.set] at e;subst e;exact d
  ·have E:H.o q=U o:=by simpa[Hp.set,c] using e
   exact(R.obj q o E).aL ((R.kP (X:=λ_=>False) h S d.ex).aL (Hp.dJ R.au h)) (S.2 _ λz=>c (R.inj _ _ (by rw[E];rfl) h z))
 zf:=λa q l=>R.zf a q ((Hp.gg h).mp l)
 k7:=λa q=>by obtain⟨o,e⟩:=R.k7 a q;exact⟨o,(S.2 a λz=>R.zf a q ⟨r,h,z.symm⟩).trans e⟩
 zb:=R.zb
noncomputable def Ad.a9(ad:Ad)(D:Lb):Ad:=⟨ad.f,λa=>a=D\/ad.z a⟩
noncomputable def Ad.aH(ad:Ad)(r:cq)(a:Lb):Ad:=⟨λq=>if q=r then a else ad.f q,ad.z⟩
theorem Hp.xS{k:Nat}{t:Int}{x:Obj}(st:bS H):bS (H.new k t x):=by
 intro q h;refine(?_ :q.n<H.n+1);by_cases e:q=⟨k,t,H.n⟩;·clear h;subst e;exact LU _
 ·exact Na (st q (by simpa[Hp.new,e] using h))
theorem Hp.qS{k:Nat}{t:Int}{r:cq}(h:r.n<H.n):r≠⟨k,t,H.n⟩:=by rintro rfl;exact M5 _ h
theorem cy{D:Lb}(k:∀b o,h.get? b=U o->h'.get? b=U o)(d:h.get? D=KF):fJ ad H h (ad.a9 D) H h':=
 ⟨λb o e _ i=>⟨⟨i.1,λq=>q.elim (λq=>by subst q;rw[d] at e;cases e) i.2⟩,k _ _ e⟩,λ_ _=>rfl,KX _⟩
theorem fe:fJ (ad.a9 D) H h ad H h:=
 ⟨λb o e _ i=>⟨⟨i.1,λq=>i.2 (.inr q)⟩,e⟩,λ_ _=>rfl,KX _⟩
theorem pN{k:Nat}{t:Int}(st:bS H):fJ (ad.a9 D) H h (ad.aH ⟨k,t,H.n⟩ D) (H.new k t x) h:=by
 refine⟨λb o e _ i=>⟨⟨?_,λq=>i.2 (.inr q)⟩,e⟩,λr R=>?_,Lv _⟩
 ·rintro⟨r,R,rfl⟩
  by_cases c:r=⟨k,t,H.n⟩;·exact i.2 (.inl (by simp[Ad.aH,c]))
  ·refine i.1 ⟨r,by simpa[Hp.new,c] using R,?_⟩
   simp[Ad.a9,Ad.aH,c]
 ·simp[Ad.aH,Ad.a9,Hp.qS R]
theorem bf.a9{s':K2}{D:Lb}(R:bf κ H ad s)(k:∀b o,s.heap.get? b=U o->s'.heap.get? b=U o)(G:s'.gens=s.gens)(c:s'.os=s.os)(h:s.heap.get? D=none)(d:∃o,s'.heap.get? D=U o):bf κ H (ad.a9 D) s' where
 base:=λb o e=>k _ _ (R.base b o e)
 gens:=G.trans R.gens
 os:=c.trans R.os
 au:=R.au
 inj:=R.inj
 new:=R.new
 obj:=λr o e=>by have q:=R.obj r o e;obtain⟨B,g⟩:=q.ex;exact q.aL (cy k h) ((k _ _ g).trans g.symm)
 zf:=λa q l=>by
  rcases q with rfl |q
  ·obtain⟨o,e⟩:=R.cZ l
   rw[h] at e;cases e
  ·exact R.zf a q l
 k7:=λa q=>by
  rcases q with rfl |q
  ·exact d
  ·obtain⟨o,e⟩:=R.k7 a q;exact⟨o,k _ _ e⟩
 zb:=λa q=>by
  rcases q with rfl |q
  ·cases e:κ.base.get? a with
   |none=>rfl
   |some o=>have:=R.base _ _ e;rw[h] at this;cases this
  ·exact R.zb a q
theorem bf.wy{D:Lb}(R:bf κ H (ad.a9 D) s):bf κ H ad s:=
 ⟨R.base,R.gens,R.os,R.au,R.inj,R.new,λr o e=>(R.obj r o e).aL fe rfl,λa q=>R.zf a (.inr q),λa q=>R.k7 a (.inr q),λa q=>R.zb a (.inr q)⟩
theorem bf.aH{D:Lb}{k:Nat}{t:Int}{x:Obj}(R:bf κ H (ad.a9 D) s)(n:¬ad.z D)(b:κ.base.get? D=none)(X:ik κ H (ad.a9 D) s.heap D x):bf κ (H.new k t x) (ad.aH ⟨k,t,H.n⟩ D) s where
 base:=R.base
 gens:=R.gens
 os:=R.os
 au:=Hp.xS R.au
 inj:=λp q P Q e=>by
  by_cases c:p=⟨k,t,H.n⟩
  ·by_cases d:q=⟨k,t,H.n⟩
   ·rw[c,d]
   ·exfalso
    refine R.zf D (.inl rfl) ⟨q,by simpa[Hp.new,d] using Q,?_⟩;simpa[Ad.aH,Ad.a9,c,d] using e.symm
  ·by_cases d:q=⟨k,t,H.n⟩
   ·exfalso
    refine R.zf D (.inl rfl) ⟨p,by simpa[Hp.new,c] using P,?_⟩;simpa[Ad.aH,Ad.a9,c,d] using e
   ·exact R.inj p q (by simpa[Hp.new,c] using P) (by simpa[Hp.new,d] using Q) (by simpa[Ad.aH,Ad.a9,c,d] using e)
 new:=λr h=>by
  by_cases c:r=⟨k,t,H.n⟩;·simpa[Ad.aH,c] using b
  ·have:=R.new r (by simpa[Hp.new,c] using h)
   simpa[Ad.aH,Ad.a9,c] using this
 obj:=λr o e=>by
  by_cases c:r=⟨k,t,H.n⟩
  ·subst c
   simp[Hp.new] at e;subst e;have:=X.aL (pN (k:=k) (t:=t) (x:=x) R.au) rfl;simpa[Ad.aH] using this
  ·have E:H.o r=U o:=by simpa[Hp.new,c] using e
   have:=(R.obj r o E).aL (pN (k:=k) (t:=t) (x:=x) R.au) rfl;simpa[Ad.aH,Ad.a9,c] using this
 zf:=λa q l=>by
  obtain⟨r,h,e⟩:=l;by_cases c:r=⟨k,t,H.n⟩
  ·have:D=a:=by simpa[Ad.aH,c] using e
   exact n (this▸q)
  ·exact R.zf a (.inr q) ⟨r,by simpa[Hp.new,c] using h,by simpa[Ad.aH,Ad.a9,c] using e⟩
 k7:=λa q=>R.k7 a (.inr q)
 zb:=λa q=>R.zb a (.inr q)
theorem Step.aH{d:Heap}{D:Lb}(S:Step X ad H d ad' H' h)(st:bS H'){k:Nat}{t:Int}{x:Obj}(g:d.get? D=none):
  Step X ad H d (Ad.aH ad' ⟨k,t,H'.n⟩ D) (H'.new k t x) h where
 keep:=S.keep
 ext:=λr R=>by show(if r=⟨k,t,H'.n⟩ then D else ad'.f r)=ad.f r;rw[if_neg (Hp.qS (K6 R S.n))];exact S.ext r R
 z:=S.z
 fresh:=λr e n=>by
  show _\/(_/\d.get? (if r=⟨k,t,H'.n⟩ then D else ad'.f r)=none);by_cases c:r=⟨k,t,H'.n⟩;·rw[if_pos c];subst c;exact .inr ⟨S.n,g⟩
  ·rw[if_neg c]
   have E:(H'.o r).isSome=true:=by simpa[Hp.new,c] using e
   exact S.fresh r E (st r E)
 n:=Lp S.n
 e4:=λr R=>by
  show H.e4 r<=if r=⟨k,t,H'.n⟩ then 0 else H'.e4 r
  rw[if_neg (Hp.qS (K6 R S.n))];exact S.e4 r R
 same:=λr R i j e=>by
  have c:=Hp.qS (k:=k) (t:=t) (K6 R S.n);have f:(H'.o r).isSome=true:=by simpa[Hp.new,c] using j
  have E:H'.e4 r=H.e4 r:=by simpa[Hp.new,c] using e
  obtain⟨a,b⟩:=S.same r R i f E;exact⟨by simpa[Hp.new,c] using a,b⟩
 bv:=S.bv
theorem Step.HK{D:Lb}(S:Step X (ad.a9 D) H h ad' H' h'):Step X ad H h ⟨ad'.f,ad.z⟩ H' h':=
 ⟨S.keep,S.ext,rfl,S.fresh,S.n,S.e4,S.same,S.bv⟩
theorem Step.mK{D:Lb}(S:Step X (ad.a9 D) H h ad' H' h'):ad'=Ad.a9 ⟨ad'.f,ad.z⟩ D:=by have:=S.z;obtain⟨f,z⟩:=ad';simp only at this;subst this;rfl
theorem Hp.u8{r:cq}(st:bS H):bS (H.drop r):=by
 intro q h;by_cases e:q=r;·subst e;simp[Hp.drop] at h
 ·exact st q (by simpa[Hp.drop,e] using h)
theorem Hp.pI{r:cq}{a:Lb}(l:e3 (H.drop r) ad a):e3 H ad a:=by
 obtain⟨q,h,rfl⟩:=l;refine⟨q,?_,rfl⟩;by_cases e:q=r;·subst e;simp[Hp.drop] at h
 ·simpa[Hp.drop,e] using h
theorem ds:fJ ad H h ad (H.drop r) h:=
 ⟨λb o e _ i=>⟨⟨λl=>i.1 (Hp.pI l),i.2⟩,e⟩,λ_ _=>rfl,KX _⟩
theorem bf.drop(R:bf κ H ad s)(r:cq):bf κ (H.drop r) ad s where
 base:=R.base
 gens:=R.gens
 os:=R.os
 au:=Hp.u8 R.au
 inj:=λp q P h e=>by
  have f:∀z,((H.drop r).o z).isSome=true->(H.o z).isSome=true:=λz hz=>by
   by_cases c:z=r;·subst c;simp[Hp.drop] at hz
   ·simpa[Hp.drop,c] using hz
  exact R.inj p q (f p P) (f q h) e
 new:=λq h=>by
  by_cases c:q=r;·subst c;simp[Hp.drop] at h
  ·exact R.new q (by simpa[Hp.drop,c] using h)
 obj:=λq o e=>by
  by_cases c:q=r;·subst c;simp[Hp.drop] at e
  ·exact(R.obj q o (by simpa[Hp.drop,c] using e)).aL ds rfl
 zf:=λa q l=>R.zf a q (Hp.pI l)
 k7:=R.k7
 zb:=R.zb
theorem Step.drop{r:cq}:Step X ad H h ad (H.drop r) h where
 keep:=λ_ _ e _ _=>e
 ext:=λ_ _=>rfl
 z:=rfl
 fresh:=λq e n=>by
  by_cases c:q=r;·subst c;simp[Hp.drop] at e
  ·exact .inl ⟨by simpa[Hp.drop,c] using e,n⟩
 n:=KX _
 e4:=λ_ _=>KX _
 same:=λq _ _ e _=>by
  by_cases c:q=r;·subst c;simp[Hp.drop] at e
  ·exact⟨by simp[Hp.drop,c],rfl⟩
 bv:=λ_ o e=>⟨o,e⟩
theorem aJ.rH{r:cq}{x:KI}(R:bf κ H ad s)(h:H.o r=U (.list xs))(e:aJ κ H ad s.heap (.ref r) x):aJ κ (H.drop r) ad s.heap (.fl xs) x:=by
 obtain⟨rfl,N⟩:=e;obtain⟨vs,n,q,z,f⟩:=R.obj r _ h;refine⟨_,vs,n,rfl,⟨?_,λz=>R.zf _ z ⟨r,by rw[h];rfl,rfl⟩⟩,q,z,f.aL ds⟩;rintro⟨p,P,e⟩;by_cases c:p=r;·subst c;simp[Hp.drop] at P
 ·exact c (R.inj _ _ (by simpa[Hp.drop,c] using P) (by rw[h];rfl) e)
end
structure cj(d:Nat)(A:NA):Prop where
 handled:A.handled=KF
 depth:A.depth+3*d+3<=900
 units:A.units+100*d+100<=9900
structure wS(d:Nat)(A:NA):Prop where
 handled:A.handled=KF
 depth:A.depth+3*d+1<=900
 units:A.units+100*d+60<=9900
theorem cj.c{d:Nat}(r:cj d A):wS d A:=⟨r.handled,by have:=r.depth;exact bM (gF _ _) 0x11312833700384513133128337003845 rfl this,by have:=r.units;exact bM (gF _ _) 0x13c41286447026ac51316441286447026ac5 rfl this⟩
theorem cj.CQ{d e:Nat}(r:cj d A)(h:e<=d):cj e A:=⟨r.handled,by have:=r.depth;exact bM (ip _ _ _) 0x133128337003845338913133129337003845 rfl h this,by have:=r.units;exact bM (ip _ _ _) 0x16441286447026ac5644891316441296447026ac5 rfl h this⟩
section
variable (κ:dz)
inductive a'(X:Lb->Prop)(ad:Ad)(H:Hp)(h:Heap)(Q:PV)(x:KI)(s':K2):Prop
 |mk (ad':Ad) (H':Hp) (v:V) (q:Q v H') (r:aJ κ H' ad' s'.heap v x) (R:bf κ H' ad' s') (S:Step X ad H h ad' H' s'.heap)
inductive v3(X:Lb->Prop)(ad:Ad)(H:Hp)(h:Heap)(Q:List V->Hp->Prop)(xs:List KI)(s':K2):Prop
 |mk (ad':Ad) (H':Hp) (vs:List V) (q:Q vs H') (r:aF κ H' ad' s'.heap vs xs) (R:bf κ H' ad' s') (S:Step X ad H h ad' H' s'.heap)
inductive jB(X:Lb->Prop)(ad:Ad)(H:Hp)(h:Heap)(Q:Bool->Hp->Prop)(b:Bool)(s':K2):Prop
 |mk (ad':Ad) (H':Hp) (q:Q b H') (R:bf κ H' ad' s') (S:Step X ad H h ad' H' s'.heap)
def FC(env:Pl)(x:KR)(ov:Option V)(H:Hp)(ad:Ad)(h:Heap):Prop:=
 (env.kindOf x=U .local/\∀v,ov=U v->∃m y,h.Ns env.locals m/\m x=U y/\aJ κ H ad h v y)\/
 ((env.kindOf x=U .cell\/env.kindOf x=U .free)/\∃c,env.cells.lookup x=U c/\jD H ad c/\(∃w,h.IsCell c w)/\∀v,ov=U v->∃y,h.IsCell c (U y)/\aJ κ H ad h v y)
structure EnvR(nm:Nm)(g:Gl)(env:Pl)(a:aV)(H:Hp)(ad:Ad)(h:Heap):Prop where
 kind:env.scope.kind=.function
 wB:env.globals=Mg
 blt:env.builtins=OZ
 ns:∃m,h.Ns env.locals m
 above:κ.base.objs.size<=env.locals
 im:jD H ad env.locals
 var:∀x i,nm.lookup x=U i->FC κ env x (a[i]?).join H ad h
 c5:∀x,g.contains x=true->env.kindOf x=U .globalImplicit
 gJ:g.gJ=κ.gJ
 ck:∀x,g.cells.contains x=true->env.kindOf x≠U .local
end
abbrev dD:Lb->Prop:=λ_=>False
variable {s':Shared} {nm:Nm} {gl:Gl} {env:Env} {J:aV}
section
variable {h:Heap}
theorem EnvR.step(V:EnvR κ nm gl env J H ad h)(S:Step dD ad H h ad' H' h')(st:bS H'):EnvR κ nm gl env J H' ad' h' where
 kind:=V.kind
 wB:=V.wB
 blt:=V.blt
 ns:=by exact qV V.ns λm o es ep e r=>⟨m,o,es,ep,S.keep _ _ e V.im.1 λf=>f.elim,r⟩
 above:=V.above
 im:=by exact qV V.ns λm o es ep e r=>S.rs st e V.im
 var:=λx i X=>by
  rcases V.var x i X with⟨k,f⟩ |⟨k,c,C,I,⟨w,o,j,W⟩,f⟩
  ·exact .inl ⟨k,λv a=>cR (f v a) λm y b d q=>sp b λo es ep e r=>⟨m,y,⟨o,es,ep,S.keep _ _ e V.im.1 λf=>f.elim,r⟩,d,q.step S st⟩⟩
  ·exact .inr ⟨k,c,C,S.rs st j I,⟨w,o,S.keep _ _ j I.1 λf=>f.elim,W⟩,λv a=>aD (f v a) λy B q=>aD B λl g d=>⟨y,⟨l,S.keep _ _ g I.1 λf=>f.elim,d⟩,q.step S st⟩⟩
 c5:=V.c5
 gJ:=V.gJ
 ck:=V.ck
end
section
variable {h:Heap} {α:Type} {M:Model} {A:Around}
theorem a'.trans{x:KI}(S:Step X ad H h ad' H' h')(st:bS H')(p:a' κ X ad' H' h' Q x s):a' κ X ad H h Q x s:=
 let ⟨a,b,v,q,r,R,c⟩:=p;⟨a,b,v,q,r,R,S.trans c st⟩
theorem v3.trans{Q:List V->Hp->Prop}{x:List KI}(S:Step X ad H h ad' H' h')(st:bS H')(p:v3 κ X ad' H' h' Q x s):v3 κ X ad H h Q x s:=
 let ⟨a,b,v,q,r,R,c⟩:=p;⟨a,b,v,q,r,R,S.trans c st⟩
theorem jB.trans{Q:Bool->Hp->Prop}{x:Bool}(S:Step X ad H h ad' H' h')(st:bS H')(p:jB κ X ad' H' h' Q x s):jB κ X ad H h Q x s:=
 let ⟨a,b,q,r,R⟩:=p;⟨a,b,q,r,S.trans R st⟩
theorem a'.toks{x:KI}{t:Nat}(p:a' κ X ad H h Q x s):a' κ X ad H h Q x {s with toks:=t}:=
 let ⟨a,b,v,q,r,R,c⟩:=p;⟨a,b,v,q,r,R.toks t,c⟩
theorem jB.toks{Q:Bool->Hp->Prop}{x:Bool}{t:Nat}(p:jB κ X ad H h Q x s):jB κ X ad H h Q x {s with toks:=t}:=
 let ⟨a,b,q,r,R⟩:=p;⟨a,b,q,r.toks t,R⟩
theorem a'.c0{Q:PV}{v:V}{x:KI}(R:bf κ H ad s)(q:Q v H)(e:aJ κ H ad s.heap v x):a' κ X ad H s.heap Q x s:=⟨ad,H,v,q,e,R,Step.refl⟩
theorem a'.hM{Q:PV}{v:V}{x:KI}{t:Nat}(R:bf κ H ad s)(q:Q v H)(e:aJ κ H ad s.heap v x):a' κ X ad H s.heap Q x {s with toks:=t}:=⟨ad,H,v,q,e,R.toks t,Step.refl⟩
end
noncomputable def BI.val:BI->KI
 |.cQ=>.builtin "len" |.list=>.type "list" |.tuple=>.type "tuple" |.sorted=>.builtin "sorted" |.e6=>.type "list" |.range=>.type "range"
 |.min=>.builtin "min" |.max=>.builtin "max" |.int=>.type "int" |.hg=>.builtin "isinstance" |.dict=>.type "dict"
structure fK(κ:dz)(G:String->Option V):Prop where
 EH:κ.K.In κ.base
 top:∃b o,κ.base.get? b=U o/\κ.base.objs.size<=b+1
 g:κ.base.Ns Mg κ.mg
 b:κ.base.Ns OZ κ.mb
 nolimit:κ.base.NoLimit
 get:∀C c,κ.cls C=U c->plainGet κ.K c ""=true/\hasDictIn κ.K c=true/\plainOver κ.K c=true/\Qc κ.K (.ref c) "__setattr__"=U (U (.builtin "object.__setattr__"))
 JQ:∀C c f,κ.cls C=U c->gB.contains f=true->Qc κ.K (.ref c) (KD f)=U KF/\takerIn κ.K c (KD f)=U KF
 az:∀C c m fa,κ.cls C=U c->κ.fn (C++"."++m)=U fa->Qc κ.K (.ref c) (KD m)=U (U (.ref fa))/\isFn κ.K (.ref fa)=true
 JE:∀f,κ.gJ.contains f=true->∃fa,κ.fn f=U fa/\κ.mg (KD f)=U (.ref fa)
 Do:∀f fa,κ.fn f=U fa->Sj κ.K (.ref fa)=true
 E5:∀K,kD.contains K=true->∃c fa,κ.cls K=U c/\κ.fn (K++".__init__")=U fa
 J2:∀C c,κ.cls C=U c->κ.mg (KD C)=U (.ref c)/\Sj κ.K (.ref c)=true/\makesIn κ.K c=true
 Im:∀C c fa,κ.cls C=U c->κ.fn (C++".__init__")=U fa->Qc κ.K (.ref c) "__init__"=U (U (.ref fa))/\typeIn κ.K (.ref fa)=U (.type "function")
 IB:(κ.base.get? NJ).isSome=true
 Bb:∀b:BI,κ.mg (KD b.name)=KF/\κ.mb (KD b.name)=U (BI.val b)
 Hq:κ.mg "zip"=KF/\κ.mb "zip"=U (.type "zip")
 Gw:∀K m v,G (K++"."++m)=U v->∃fa,κ.fn (K++"."++m)=U fa
 c5:∀x v,jP.contains x=true->G x=U v->∃y,κ.mg (KD x)=U y/\∀H ad s,bf κ H ad s->aJ κ H ad s.heap v y
def SE(κ:dz)(G:String->Option V)(C:Ctx)(d:Nat)(m:Ex):Prop:=
 ∀(e:KN) (nm:Nm) (gl:Gl),m.ok nm gl e=true->∀(A:NA) (E:KI->K2->Prop) (env:Pl) (J:aV) (Q:PV) (H:Hp) (ad:Ad) (s:K2),
  cj d A->EnvR κ nm gl env J H ad s.heap->bf κ H ad s->m.wp G C J Q H->KV (K5 κ.prog κ.w) A (Nz (m.py nm e) env) (a' κ dD ad H s.heap Q) E s
def pp(κ:dz)(G:String->Option V)(C:Ctx)(d:Nat)(m:List Ex):Prop:=
 ∀(es:List KN) (nm:Nm) (gl:Gl),Ex.hO nm gl m es=true->∀(pos:P9) (A:NA) (E:KI->K2->Prop) (env:Pl) (J:aV) (Q:List V->Hp->Prop) (H:Hp) (ad:Ad) (s:K2),
  cj d A->EnvR κ nm gl env J H ad s.heap->bf κ H ad s->Ex.bh G C m J Q H->KV (K5 κ.prog κ.w) A (spliced (NK pos (Mi (Ex.cP nm m es) env))) (v3 κ dD ad H s.heap Q) E s
def ST(κ:dz)(G:String->Option V)(C:Ctx)(d:Nat)(m:Ex):Prop:=
 ∀(e:KN) (nm:Nm) (gl:Gl),m.ok nm gl e=true->∀(A:NA) (E:KI->K2->Prop) (env:Pl) (J:aV) (Q:Bool->Hp->Prop) (H:Hp) (ad:Ad) (s:K2),
  cj d A->EnvR κ nm gl env J H ad s.heap->bf κ H ad s->m.qX G C J Q H->KV (K5 κ.prog κ.w) A (QC (m.py nm e) env (Nz (m.py nm e) env)) (jB κ dD ad H s.heap Q) E s
variable {G:String->Option V} {C:Ctx} {d:Nat}
theorem xM(c:V):SE κ G C d (.aE c):=by
 intro e nm gl a A E env J Q H ad s f V R h;refine(?_ :KV _ A (Nz (DY c e) env) _ E s);cases c with
 |none=>exact wpAny_Constant_none (a'.c0 R h rfl)
 |bool b=>exact wpAny_Constant_bool (a'.c0 R h rfl)
 |int i=>
  refine(?_ :KV _ A (Nz (if i<0 then _ else _) env) _ E s);by_cases n:i<0
  ·refine Z (if_pos n) ?_
   clear n;obtain⟨j,rfl⟩:∃j,i= -j:=⟨-i,(Tn i).symm⟩;exact Z (Tn _) (TJ (PG (neg_int (a'.hM R h ⟨_,rfl⟩))))
  ·exact Z (if_neg n) (PG (a'.hM R h ⟨_,rfl⟩))
 |str t=>exact Sh (a'.hM R h ⟨_,rfl⟩)
 |_=>exact aK a
theorem hw(h:fF x=true):(x==("__debug__":KR))=false/\(x==("__classdict__":KR))=false:=⟨r1 (bt h).1,r1 (bt h).2⟩
theorem qP(i:Nat):SE κ G C d (.var i):=by
 intro e nm gl g A E env J Q H ad s t V R h;obtain⟨v,n,h⟩:=aQ h;refine ay (bt g) λL o=>ay (hw o) λl p=>KS (V.var _ _ (beq_iff_eq.mp L)) (λr=>ay r λk f=>cR (f v n) λm y N j q=>OW (RM V.kind k N j (a'.c0 R h q)) l) λa=>ay a λk b=>lf b λc g I _ f=>?_
 ·refine aD (f v n) λy j q=>?_
  rcases k with k |k
  ·exact OW (R6 V.kind k g j (a'.c0 R h q)) l
  ·exact OW (R5 V.kind k g j (a'.c0 R h q) p) l
theorem ve(k:fK κ G)(x:String):SE κ G C d (.c5 x):=by intro e nm gl h A E env J Q H ad s c V R w;obtain⟨v,a,w⟩:=aQ w;exact m7 h λn g h=>aD (k.c5 _ _ n a) λy b q=>N8 V.kind (V.c5 _ g) (Qo (Z V.wB (k.g.keeps R.base)) b (a'.c0 R w (q _ _ _ R))) (hw h).1
theorem tB{m:Ex}(h:m.oa=false)(nm:Nm)(e:KN)(name:KR)(env:Pl)(w:SV KI):QZ (m.py nm e) name env w=w:=by
 cases m with
 |aE c=>cases c with
  |int i=>refine(?_ :QZ (if i<0 then _ else _) name env w=w);split<;>rfl
  |_=>rfl
 |call=>exact aK h.symm
 |az=>exact aK h.symm
 |bi=>exact aK h.symm
 |new=>exact aK h.symm
 |_=>rfl
section
variable {K:Type} [DecidableEq K] {K':Type} [DecidableEq K'] {f:K'->K} (hf:∀a b,f a=f b->a=b) {R:V->Value->Prop}
include hf
theorem gd{s:List (K×KI)}(h:eO (λe g=>f e.1=g.1/\R e.2 g.2) es s)(k:K'):
  (bc es k=KF/\NW s (f k)=KF)\/∃v x,bc es k=U v/\NW s (f k)=U x/\R v x:=by
 induction h with
 |nil=>exact .inl ⟨rfl,rfl⟩
 |@cons p q l r H _ i=>
  obtain⟨a,v⟩:=p;obtain⟨b,x⟩:=q;simp only at H;by_cases c:a=k
  ·clear i;subst c
   refine .inr ⟨v,x,by simp[iU,ht],?_,H.2⟩;simp[NW,H.1]
  ·simpa only[iU,ht,c,if_false,NW,R2,decide_eq_false (λe=>c (hf _ _ (H.1.trans e)):¬b=f k)] using i
end
theorem Cg{h:Heap}{K:List (KR×KI)}{prog:L6}{w:MP}(D:h.DictOf (L5 prog w) a K):
  ∃es n,h.get? a=U (QE es n)/\(∀x,getL x es=U (NW K x)):=by
 refine uJ D λo es ep i b hd j p N=>?_;obtain⟨c,d,f⟩:=b;obtain⟨C,m,A,l⟩:=o;simp only at c d f hd;subst c d f hd;refine⟨es.toList,ep,by simpa[QE] using i,λx=>?_⟩;have q:=p.find x;have e:(λe:Mt=>e.key.isStr x)=λe=>(L5 prog w).is x e.key:=funext λe=>isStr_of x e.key;have nk:es.toList.any (·.refKey)=false:=by simp only[Ro];intro e E;refine aD (j e (OO.mp E)) λk H _=>cV (QO H) λt T=>?_;simp[QG,T]
 unfold getL;refine Z e (Z nk ?_);induction g:es.toList.find? λe=>(L5 prog w).is x e.key with
 |none=>rw[g] at q;simp only[Option.map_none] at q;refine hR q ?_;rfl
 |some e=>rw[g] at q;simp only[Nr] at q;simp only[<-q]
theorem w6{ad:Ad}(e:aJ κ H ad h v x):handedIn x=true:=by
 cases v;·obtain rfl:=(e:x=_);rfl
 ·obtain rfl:=(e:x=_);rfl
 ·obtain⟨t,rfl⟩:=e;rfl
 ·obtain⟨t,rfl⟩:=e;rfl
 ·obtain⟨a,xs,n,rfl,_⟩:=e;rfl
 ·obtain⟨a,xs,n,rfl,_⟩:=e;rfl
 ·obtain⟨a,c,rfl,_⟩:=e;rfl
 ·obtain⟨rfl,_⟩:=e;rfl
 ·obtain⟨a,t,u,v,rfl,_⟩:=e;rfl
theorem v1{fs:List (String×V)}(h:bC H r=U fs):H.o r=U (.dS fs):=by obtain⟨o,e,h⟩:=bG h;induction o<;>cases h;exact e
theorem rO(o:fK κ G){ad:Ad}{s:K2}{K:String}{fs:List (String×V)}(R:bf κ H ad s)(e:aJ κ H ad s.heap (.eQ K r) x)(h:bC H r=U fs):
  ∃a c es n k,x=.ref a/\κ.cls K=U c/\InstAt s.heap a (NY c (ad.f r)) c (U (QE es n))/\s.heap.DictOf (L5 κ.prog κ.w) (ad.f r) k/\
   (∀y,getL y es=U (NW k y))/\eO (λe f=>KD e.1=f.1/\aJ κ H ad s.heap e.2 f.2) fs k:=by
 obtain⟨a,c,rfl,i,C,X,N⟩:=e;obtain⟨k,D,f⟩:=R.obj r _ (v1 h);exact eH (Cg D) λes n g gl=>⟨a,c,es,n,k,rfl,C,⟨X,rfl,rfl,g⟩,D,gl,f⟩
theorem vc(o:fK κ G)(P:SE κ G C d e)(f:String):SE κ G C d (.ao e f):=by
 intro w nm gl m A E env J Q H ad s T V R W;refine m7 m λN hb m=>(?_ :KV _ A (QZ (e.py nm (cO w 0)) _ env (Nz (e.py nm (cO w 0)) env)>>=_) _ E s);rw[tB (r1 hb)];refine KA (K0 (P _ nm gl m A E env J _ H ad s T V R W) (λx B p=>?_) λ_ _ y=>y);obtain⟨t,F,v,q,X,b,S⟩:=p;refine KA (ML (KA (LJ ?_)));cases v with
 |eQ K r=>
  obtain⟨fs,u,q⟩:=aQ q;obtain⟨v,h,q⟩:=aQ q;refine El (rO o b X u) λa c es n aa g l I D i=>ay i λL af=>?_;clear X;subst g;refine fj (o.get _ _ l) λk1 k2 k3 k4=>ay (o.JQ _ _ _ l N) λf1 f2=>KS (gd cr af f) (λj=>ay j λz _=>?_) λk=>cR k λv' y z z' M=>?_;·replace h:=z▸h;exact al h
  ·replace h:=z▸h;(replace h:=KC h;subst h)
   exact get_value (o.EH.keeps b.base) I (plainGet_of k1).1 (findObj_own k2 f1 rfl ((lookIn_dict _ _ _).trans ((L _).trans (Z z' rfl)))) (w6 M) (KA (wpAny_letTemporaryGo (KL (a'.trans S b.au (a'.hM b q M)))))
 |_=>exact q.elim
mutual
noncomputable def V.toD:V->Sl
 |.none=>.none
 |.bool b=>.bool b
 |.int i=>.int i
 |.str s=>.str (KD s)
 |.aA l=>.tuple (V.toDs l)
 |.fl l=>.list (V.toDs l)
 |_=>.none
noncomputable def V.toDs:List V->List Sl
 |[]=>[]
 |v::l=>v.toD::V.toDs l
end
theorem gq(n:Nat)(C r):(V.eQ C r).hj n=false:=by induction n<;>rfl
theorem gM(n:Nat)(r):(V.ref r).hj n=false:=by induction n<;>rfl
theorem h4(n:Nat)(r):(V.yB r).hj n=false:=by induction n<;>rfl
theorem dQ{b:Bool}{P:Prop}(h:b=true)(e:b=false):P:=by replace h:=e▸h;exact aK h
theorem q5(h:(V.aA l).hj n=true):∃m,n=m+1/\l.all (V.hj m)=true:=by
 induction n using MG with
 |zero=>exact aK h
 |succ n=>exact⟨n,rfl,h⟩
theorem rc(h:(V.fl l).hj n=true):∃m,n=m+1/\l.all (V.hj m)=true:=by
 induction n using MG with
 |zero=>exact aK h
 |succ n=>exact⟨n,rfl,h⟩
theorem all_cons{a:Type}{v:a}{l:List a}{p:a->Bool}(h:(v::l).all p=true):p v=true/\l.all p=true:=by
 simp only[List.all_cons] at h;induction e:p v with
 |true=>rw[e] at h;exact⟨rfl,h⟩
 |false=>rw[e] at h;exact aK h
mutual
theorem toD_lay:∀(v:V) (n:Nat),v.hj n=true->v.toD.canLay0=true/\v.toD.depth<=n+1
 |.none,n,_=>⟨rfl,K3 _⟩
 |.bool b,n,_=>⟨rfl,K3 _⟩
 |.int b,n,_=>⟨rfl,K3 _⟩
 |.str b,n,_=>⟨iS b,K3 _⟩
 |.aA l,n,h=>by
  obtain⟨m,rfl,h⟩:=q5 h
  have t:=toDs_lay l m h
  exact⟨t.1,Ld t.2⟩
 |.fl l,n,h=>by
  obtain⟨m,rfl,h⟩:=rc h
  have t:=toDs_lay l m h
  exact⟨t.1,Ld t.2⟩
 |.eQ C r,n,h=>dQ h (gq n C r)
 |.ref r,n,h=>dQ h (gM n r)
 |.yB r,n,h=>dQ h (h4 n r)
theorem toDs_lay:∀(l:List V) (n:Nat),l.all (V.hj n)=true->Od (V.toDs l)=true/\NZ (V.toDs l)<=n+1
 |[],n,_=>⟨rfl,K3 _⟩
 |v::l,n,h=>by
  obtain⟨H,c⟩:=all_cons h
  have a:=toD_lay v n H
  have b:=toDs_lay l n c
  refine⟨?_,Nat.max_le.mpr ⟨a.2,b.2⟩⟩
  show(_&&_)=true
  rw[a.1];exact b.1
end
theorem ri(a b:String):(KD a==KD b)=(a==b):=by rw[PQ,beq_iff_eq,beq_iff_eq,(propext ⟨cr _ _,λe=>by rw[e]⟩:(KD a=KD b)=(a=b))]
mutual
theorem nG:∀(a:V) (n:Nat) (b:V),a.hj n=true->b.hj n=true->M8 a.toD b.toD=a.same b
 |.none,n,b,h,k=>by cases b<;>first |rfl |exact dQ k (gq _ _ _) |exact dQ k (gM _ _) |exact dQ k (h4 _ _)
 |.bool x,n,b,h,k=>by cases b<;>first |rfl |exact dQ k (gq _ _ _) |exact dQ k (gM _ _) |exact dQ k (h4 _ _)
 |.int x,n,b,h,k=>by cases b<;>first |rfl |exact dQ k (gq _ _ _) |exact dQ k (gM _ _) |exact dQ k (h4 _ _)
 |.str x,n,b,h,k=>by cases b<;>first |rfl |exact ri _ _ |exact dQ k (gq _ _ _) |exact dQ k (gM _ _) |exact dQ k (h4 _ _)
 |.aA xs,n,b,h,k=>by
  obtain⟨m,rfl,h⟩:=q5 h
  cases b with
  |aA ys=>exact kZ xs m ys h k
  |_=>first |rfl |cases k
 |.fl xs,n,b,h,k=>by
  obtain⟨m,rfl,h⟩:=rc h
  cases b with
  |fl ys=>exact kZ xs m ys h k
  |_=>first |rfl |cases k
 |.eQ _ _,n,b,h,k=>dQ h (gq _ _ _)
 |.ref _,n,b,h,k=>dQ h (gM _ _)
 |.yB _,n,b,h,k=>dQ h (h4 _ _)
theorem kZ:∀(a:List V) (n:Nat) (b:List V),a.all (V.hj n)=true->b.all (V.hj n)=true->Of (V.toDs a) (V.toDs b)=V.ka a b
 |[],n,b,h,k=>by cases b<;>rfl
 |x::xs,n,[],h,k=>rfl
 |x::xs,n,y::ys,h,k=>by
  have h:=all_cons h;have k:=all_cons k
  show(M8 x.toD y.toD&&Of (V.toDs xs) (V.toDs ys))=(V.same x y&&V.ka xs ys)
  rw[nG x n y h.1 k.1,kZ xs n ys h.2 k.2]
end
section
variable {h:Heap}
mutual
theorem aJ.ff:∀(v:V) (n:Nat) (x:KI),v.hj n=true->aJ κ H ad h v x->∃as,TB h x v.toD as
 |.none,n,x,_,e=>by obtain rfl:x=.none:=e;exact⟨_,.none⟩
 |.bool b,n,x,_,e=>by obtain rfl:x=.bool b:=e;exact⟨_,.bool _⟩
 |.int b,n,x,_,e=>by obtain⟨t,rfl⟩:=e;exact⟨_,.int _ _⟩
 |.str b,n,x,_,e=>by obtain⟨t,rfl⟩:=e;exact⟨_,.str _ _⟩
 |.aA l,n,x,k,e=>by
  obtain⟨m,rfl,k⟩:=q5 k
  obtain⟨a,xs,m,rfl,_,g,_,f⟩:=e
  obtain⟨as,r⟩:=aF.ff l _ _ k f
  exact⟨_,.tuple g rfl rfl r⟩
 |.fl l,n,x,k,e=>by
  obtain⟨m,rfl,k⟩:=rc k
  obtain⟨a,xs,m,rfl,_,g,_,f⟩:=e
  obtain⟨as,r⟩:=aF.ff l _ _ k f
  exact⟨_,.list g rfl rfl r⟩
 |.eQ _ _,n,x,k,_=>dQ k (gq _ _ _)
 |.ref _,n,x,k,_=>dQ k (gM _ _)
 |.yB _,n,x,k,_=>dQ k (h4 _ _)
theorem aF.ff:∀(l:List V) (n:Nat) (xs:List KI),l.all (V.hj n)=true->aF κ H ad h l xs->∃as,ReadsAll h xs (V.toDs l) as
 |[],n,xs,_,e=>by obtain rfl:xs=[]:=e;exact⟨_,.nil⟩
 |v::l,n,xs,k,e=>by
  have k:=all_cons k
  obtain⟨x,r,rfl,E,c⟩:=e
  obtain⟨as,R⟩:=aJ.ff v n x k.1 E
  obtain⟨bs,B⟩:=aF.ff l n r k.2 c
  exact⟨_,.cons R B⟩
end
theorem B6{r:cq}:(∃xs,H.o r=U (.list xs)/\res H (.ref r)=.fl xs)\/res H (.ref r)=.ref r:=by
 induction e:(H.o r).bind Obj.io with
 |none=>exact .inr (by refine(?_ :(match(H.o r).bind Obj.io with |some xs=>V.fl xs |.none=>V.ref r)=_);exact Z e rfl)
 |some xs=>obtain⟨o,E,a⟩:=bG e;exact .inl ⟨xs,Z E (Z (vP a) rfl),by refine(?_ :(match(H.o r).bind Obj.io with |some xs=>V.fl xs |.none=>V.ref r)=_);exact Z e rfl⟩
theorem qG(R:bf κ H ad s)(k:(res H v).hj n=true)(e:aJ κ H ad s.heap v x):∃as,TB s.heap x (res H v).toD as:=by
 cases v with
 |ref r=>
  rcases B6 (H:=H) (r:=r) with⟨xs,h,E⟩ |E
  ·rw[E] at k⊢
   obtain⟨m,rfl,k⟩:=rc k;obtain⟨rfl,_⟩:=e;obtain⟨vs,m,g,_,f⟩:=R.obj _ _ h;obtain⟨as,a⟩:=f.ff _ _ _ k;exact⟨_,.list g rfl rfl a⟩
  ·rw[E] at k;exact dQ k (gM _ _)
 |_=>exact e.ff _ n _ k
theorem ji{v:V}(k:v.hj 8=true):shaped v.toD=true:=by have:=toD_lay v 8 k;simp only[shaped,Lu,decide_eq_true_eq];exact⟨this.1,bM (kT _) 0x740413711383 rfl this.2⟩
end
section
variable {A:Around}
theorem Bj{t:Bool}(h:eqv H a b=U t):(res H a).hj 8=true/\(res H b).hj 8=true/\t=(res H a).same (res H b):=by
 have h:(if((res H a).hj 8&&(res H b).hj 8)=true then U ((res H a).same (res H b)) else KF)=U t:=h;by_cases k:((res H a).hj 8&&(res H b).hj 8)=true
 ·replace h:=(if_pos k)▸h
  (replace h:=KC h;subst h)
  obtain⟨K,c⟩:=bt k;exact⟨K,c,rfl⟩
 ·replace h:=(if_neg k)▸h;exact al h
theorem AT{xs:List V}{k:V}{t:Bool}{x:KI}{tag:Bool}(o:cj d A)(R:bf κ H ad s){vs:Array KI}{a:Lb}{n:Nat}
  (g:s.heap.get? a=U {cls:=.type (if tag then "list" else "tuple"),data:=.seq vs n})(f:aF κ H ad s.heap xs vs.toList)(e:aJ κ H ad s.heap k x)(h:kt xs k=U t){Q:KI->K2->Prop}:
  (Q (.bool t) s->KV (K5 κ.prog κ.w) A (NP .In x (.ref a)) Q E s)/\(Q (.bool (!t)) s->KV (K5 κ.prog κ.w) A (NP .NotIn x (.ref a)) Q E s):=by
 have h:(if(xs.all (V.hj 7)&&k.hj 7)=true then U (xs.any λy=>y.same k) else KF)=U t:=h;by_cases c:(xs.all (V.hj 7)&&k.hj 7)=true
 ·replace h:=(if_pos c)▸h
  refine ay (bt c) λC m=>?_
  (replace h:=KC h;subst h)
  obtain⟨as,r⟩:=f.ff _ 7 _ C;obtain⟨bs,b⟩:=e.ff _ 7 _ m;have L:=toDs_lay xs 7 C;have i:=toD_lay k 7 m;have u:A.units+1+min (NZ (V.toDs xs)) k.toD.depth<N6:=by have:=o.units;have:N6=9900:=rfl;lia
  have q:∀l:List V,l.all (V.hj 7)=true->((V.toDs l).any λy=>M8 y k.toD)=l.any λy=>y.same k:=by
   intro l;induction l with
   |nil=>intro _;rfl
   |cons v l I=>intro j;have j:=all_cons j;exact((Z (I j.2) (Z (nG v 7 k j.1 m) rfl)):(M8 v.toD k.toD||(V.toDs l).any λy=>M8 y k.toD)=(v.same k||l.any λy=>y.same k))
  refine hR (q xs C) ?_;induction tag with
  |true=>exact⟨in_list_reads (.list g rfl rfl r) b L.1 i.1 u,notIn_list_reads (.list g rfl rfl r) b L.1 i.1 u⟩
  |false=>exact⟨in_tuple_reads (.tuple g rfl rfl r) b L.1 i.1 u,notIn_tuple_reads (.tuple g rfl rfl r) b L.1 i.1 u⟩
 ·replace h:=(if_neg c)▸h;exact al h
theorem e9(K:fK κ G)(R:bf κ H ad s){r:cq}(h:(H.o r).isSome=true):(ad.f r==NJ)=false:=by simp only[beq_eq_false_iff_ne];intro e;have:=R.new r h;rw[e] at this;have k:=K.IB;rw[this] at k;exact aK k
theorem bx{r:cq}{o:Obj}(h:H.o r=U o):(H.o r).isSome=true:=by refine Z h ?_;rfl
theorem zl{K:List Int}(e:de k=U K):k=.aA (ae K):=by obtain⟨l,h,H⟩:=bG e;exact Z (om h) (Z (jq H) rfl)
theorem kL{K:List Int}(e:de k=U K)(q:aJ κ H ad h k x):∃a,x=.ref a/\jD H ad a/\(tK κ.prog κ.w).is h K a:=by rw[zl e] at q;obtain⟨a,xs,n,rfl,i,g,z,f⟩:=q;exact⟨a,rfl,i,xs,n,g,z,aF.ints.mp f⟩
theorem CG{c:Prop}[Decidable c]{y:bQ}(h:(if c then KF else U x)=U y):x=y:=by
 by_cases d:c;·rw[if_pos d] at h;exact al h
 ·rw[if_neg d] at h;exact KC h
theorem zW{c:Prop}[Decidable c]{y:bQ}(h:(if c then U x else KF)=U y):x=y:=by
 by_cases d:c;·rw[if_pos d] at h;exact KC h
 ·rw[if_neg d] at h;exact al h
theorem Co{d:V}{k:bQ}(e:w2 op l i d=U k):∃x,k=⟨op,l,i,x⟩/\d=x.toV:=by
 cases d with
 |int j=>exact⟨.int j,(CG e).symm,rfl⟩
 |aA w=>obtain⟨m,h,H⟩:=bG e;exact⟨.gH m,(zW H).symm,congrArg V.aA (jq h)⟩
 |_=>exact al e
theorem E9{K:bQ}(e:gx k=U K):k=K.toV:=by obtain⟨q,a,e⟩:=bG e;obtain⟨op,b,e⟩:=bG e;obtain⟨l,c,e⟩:=bG e;obtain⟨i,d,e⟩:=bG e;obtain⟨t,h,H⟩:=bG a;refine aD (Co e) λx E D=>?_;clear e;clear e;subst E;exact(om h).trans (congrArg V.aA ((Di H).trans (by simp only[ru b,zl c,c2 d,D]:[q.1,q.2.1,q.2.2.1,q.2.2.2]=[V.str op,.aA (ae l),.int i,x.toV])))
theorem w5{K:bQ}(e:gx k=U K)(q:aJ κ H ad h k x):k=K.toV/\∃a,x=.ref a/\(nK κ.prog κ.w).is h K a:=by have b:=E9 e;clear e;subst b;refine aD q.nk λa E i=>?_;clear q;subst E;exact⟨rfl,a,rfl,i⟩
theorem hN{K:Type}[DecidableEq K]{R:V->KI->Prop}{P:Lb->Prop}{es:List (K×V)}{s:List (K×Lb×KI)}(h:eO (λe g=>e.1=g.1/\P g.2.1/\R e.2 g.2.2) es s)(k:K):
  (bc es k=KF/\Pj s k=KF)\/∃v a x,bc es k=U v/\Pj s k=U (a,x)/\R v x:=by
 induction h with
 |nil=>exact .inl ⟨rfl,rfl⟩
 |@cons p q l r H _ i=>
  obtain⟨a,v⟩:=p;obtain⟨b,y,x⟩:=q;simp only at H;by_cases c:a=k
  ·clear i;subst c
   refine .inr ⟨v,y,x,by simp[iU,ht],?_,H.2.2⟩;simp[Pj,H.1]
  ·simpa only[iU,ht,c,if_false,Pj,R2,decide_eq_false (λe=>c (H.1.trans e):¬b=k)] using i
structure BM(κ:dz)(A:NA)(E:KI->K2->Prop)(s:K2)(x y:KI)(t:Bool):Prop where
 i:∀{Q:KI->K2->Prop},(∀tk,Q (.bool t) {s with toks:=tk})->KV (K5 κ.prog κ.w) A (NP .In x y) Q E s
 n:∀{Q:KI->K2->Prop},(∀tk,Q (.bool !t) {s with toks:=tk})->KV (K5 κ.prog κ.w) A (NP .NotIn x y) Q E s
theorem q4(b:cj d A)(R:bf κ H ad s){tag:Bool}{t:Bool}{a:Lb}(g:s.heap.get? a=U {cls:=.type (if tag then "list" else "tuple"),data:=.seq vs n})(f:aF κ H ad s.heap xs vs.toList)
  (e:aJ κ H ad s.heap k x)(h:kt xs k=U t):BM κ A E s x (.ref a) t:=
 ⟨λq=>(AT (tag:=tag) b R g f e h).1 (q s.toks),λq=>(AT (tag:=tag) b R g f e h).2 (q s.toks)⟩
theorem FU(K:fK κ G)(R:bf κ H ad s){r:cq}{tk:Nat}(h:H.o r=U (.dI es)):BM κ A E s (.int i tk) (.ref (ad.f r)) (bc es i).isSome:=by
 obtain⟨k,D,f⟩:=R.obj _ _ h;have e:(NW k i).isSome=(bc es i).isSome:=by
  refine KS (gd (f:=id) (λ_ _ e=>e) f i) (λa=>ay a λz c=>?_) λb=>cR b λv x z c _=>?_;·refine Z z (Z ((c:NW k i=KF)) ?_);rfl
  ·refine Z z (Z ((c:NW k i=U x)) ?_);rfl
 exact⟨λq=>wpAny_in_of (Nq _ _ _ _) (e9 K R (bx h)) D.mapOf (Z e (q _)),
  λq=>wpAny_notIn_of (Nq _ _ _ _) (e9 K R (bx h)) D.mapOf (Z e (q _))⟩
theorem Fz(K:fK κ G)(l:cj d A)(R:bf κ H ad s){r:cq}(I:(tK κ.prog κ.w).is s.heap i j)(c:H.o r=U (.dP es)):BM κ A E s (.ref j) (.ref (ad.f r)) (bc es i).isSome:=by
 obtain⟨k,D,f⟩:=R.obj _ _ c;have h:A.units+1<N6:=by have:=l.units;have:N6=9900:=rfl;lia
 have e:(Pj k i).isSome=(bc es i).isSome:=by
  refine KS (hN f i) (λa=>ay a λz g=>?_) λb=>rv b λv _ x z g _=>?_;·refine Z z (Z g ?_);rfl
  ·refine Z z (Z g ?_);rfl
 exact⟨λq=>wpAny_in_heap (i7 h) I (e9 K R (bx c)) D (Z e (q _)),
  λq=>wpAny_notIn_heap (i7 h) I (e9 K R (bx c)) D (Z e (q _))⟩
theorem Dv(K:fK κ G)(j:cj d A)(R:bf κ H ad s){c:V}{t:Bool}(h:dK H k c=U t)(e:aJ κ H ad s.heap k x)(C:aJ κ H ad s.heap c y):BM κ A E s x y t:=by
 cases c with
 |fl xs=>obtain⟨a,vs,n,rfl,_,g,_,f⟩:=C;exact q4 (tag:=true) j R g f e h
 |aA xs=>obtain⟨a,vs,n,rfl,_,g,_,f⟩:=C;exact q4 (tag:=false) j R g f e h
 |ref r=>
  obtain⟨rfl,_⟩:=C;obtain⟨o,l,h⟩:=bG h;induction o with
  |list xs=>obtain⟨vs,n,g,_,f⟩:=R.obj _ _ l;exact q4 (tag:=true) j R g f e h
  |dI es=>obtain⟨i,I,rfl⟩:=fz h;rw[c2 I] at e;obtain⟨tk,rfl⟩:=e;exact FU K R l
  |dP es=>obtain⟨i,m,rfl⟩:=fz h;refine gc (kL m e) λp b _ I=>?_;clear e;subst b;exact Fz K j R I l
  |dS _=>exact al h
  |dN _=>exact al h
 |_=>exact al h
theorem mI{c:Type}{f:Int->Int->c}{t:c}(e:m3 f a b=U t)(E:aJ κ H ad h a x)(B:aJ κ H ad h b y):∃i j u v,x=.int i u/\y=.int j v/\t=f i j:=by obtain⟨i,d,e⟩:=bG e;obtain⟨j,g,e⟩:=fz e;rw[c2 d] at E;rw[c2 g] at B;obtain⟨u,rfl⟩:=E;obtain⟨v,rfl⟩:=B;exact⟨i,j,u,v,rfl,rfl,e.symm⟩
theorem CZ{a:V}{t:Bool}(e:a.B1 b=U t)(E:aJ κ H ad h a x)(B:aJ κ H ad h b y):plainIs x y=true/\(x==y)=t:=by
 cases b with
 |none=>
  obtain rfl:y=.none:=B;cases a with
  |none=>obtain rfl:x=.none:=E;(replace e:=KC e;subst e);exact⟨rfl,rfl⟩
  |bool b=>obtain rfl:x=.bool b:=E;(replace e:=KC e;subst e);exact⟨rfl,rfl⟩
  |int i=>obtain⟨_,rfl⟩:=E;(replace e:=KC e;subst e);exact⟨rfl,rfl⟩
  |str i=>exact al e
  |aA l=>obtain⟨_,_,_,rfl,_⟩:=E;(replace e:=KC e;subst e);exact⟨rfl,rfl⟩
  |fl l=>obtain⟨_,_,_,rfl,_⟩:=E;(replace e:=KC e;subst e);exact⟨rfl,rfl⟩
  |eQ C r=>obtain⟨_,_,rfl,_⟩:=E;(replace e:=KC e;subst e);exact⟨rfl,rfl⟩
  |ref r=>obtain⟨rfl,_⟩:=E;(replace e:=KC e;subst e);exact⟨rfl,rfl⟩
  |yB i=>exact al e
 |_=>exact al e
theorem wK{a:V}{t:Bool}(e:a.B1 b=U t)(f:aJ κ H ad h a x)(B:aJ κ H ad h b y){Q:KI->K2->Prop}:
  (Q (.bool t) s->KV (K5 κ.prog κ.w) A (NP .Is x y) Q E s)/\(Q (.bool !t) s->KV (K5 κ.prog κ.w) A (NP .IsNot x y) Q E s):=by
 exact ay (CZ e f B) λc d=>⟨λq=>wpAny_is_plain c (Z d q),λq=>wpAny_isNot_plain c (Z d q)⟩
theorem Br(k:fK κ G)(g:cj d A)(R:bf κ H ad s){t:Bool}(h:gI H op a b=U t)(e:aJ κ H ad s.heap a x)(B:aJ κ H ad s.heap b y)
  {Q:KI->K2->Prop}(q:∀tk,Q (.bool t) {s with toks:=tk}):KV (K5 κ.prog κ.w) A (NP op.py x y) Q E s:=by
 have c:∀{t:Bool},eqv H a b=U t->∀{Q:KI->K2->Prop},(Q (.bool t) s->KV (K5 κ.prog κ.w) A (NP .Eq x y) Q E s)/\(Q (.bool !t) s->KV (K5 κ.prog κ.w) A (NP .NotEq x y) Q E s):=by
  intro t h Q;have l:A.units+64<N6:=by have:=g.units;have:N6=9900:=rfl;lia
  refine cH (Bj h) λp1 p f=>?_;clear h;subst f;obtain⟨as,r⟩:=qG R p1 e;obtain⟨bs,m⟩:=qG R p B;exact hR (nG _ 8 _ p1 p) (⟨compareEq_shaped r m (ji p1) (ji p) l,compareNe_shaped r m (ji p1) (ji p) l⟩)
 induction op with
 |eq=>exact(c h).1 (q s.toks)
 |ne=>obtain⟨T,h',rfl⟩:=fz h;exact(c h').2 (q s.toks)
 |lt=>clear c;obtain⟨i,j,u,v,rfl,rfl,rfl⟩:=mI h e B;exact PySem.P.lt_int (q s.toks)
 |le=>clear c;obtain⟨i,j,u,v,rfl,rfl,rfl⟩:=mI h e B;exact PySem.P.le_int (q s.toks)
 |gt=>clear c;obtain⟨i,j,u,v,rfl,rfl,rfl⟩:=mI h e B;exact PySem.P.gt_int (q s.toks)
 |ge=>clear c;obtain⟨i,j,u,v,rfl,rfl,rfl⟩:=mI h e B;exact PySem.P.ge_int (q s.toks)
 |dK=>exact(Dv k g R h e B).i q
 |eW=>obtain⟨T,h',rfl⟩:=fz h;exact(Dv k g R h' e B).n q
 |is=>exact(wK h e B).1 (q s.toks)
 |mW=>obtain⟨T,h',rfl⟩:=fz h;exact(wK h' e B).2 (q s.toks)
theorem qk(m:Ex)(nm:Nm)(e:KN)(op:CmpOp):TP op (m.py nm e)=false:=by
 cases m with
 |aE c=>cases c with
  |int i=>refine(?_ :TP op (if i<0 then _ else _)=false);split<;>rfl
  |_=>rfl
 |bi b=>induction b<;>rfl
 |_=>rfl
theorem ud(I:SE κ G C d a)(F:SE κ G C d b)(K:a.ok nm gl l=true)(L:b.ok nm gl r=true){env:Pl}{Q:V->V->Hp->Prop}(z:cj d A)(V:EnvR κ nm gl env J H ad s.heap)
  (R:bf κ H ad s)(W:a.wp G C J (λx h=>b.wp G C J (λy h=>Q x y h) h) H){T:KI->KI->SV M}{P:M->K2->Prop}{D:Ad}{e:Hp}{f:Heap}(o:Step dD D e f ad H s.heap)
  (k:∀ad' H' s' v w x y,Q v w H'->aJ κ H' ad' s'.heap v x->aJ κ H' ad' s'.heap w y->bf κ H' ad' s'->Step dD D e f ad' H' s'.heap->KV (K5 κ.prog κ.w) A (T x y) P E s'):
  KV (K5 κ.prog κ.w) A (Nz (a.py nm l) env) (λx S=>KV (K5 κ.prog κ.w) A (Nz (b.py nm r) env) (λy g=>KV (K5 κ.prog κ.w) A (T x y) P E g) E S) E s:=by
 refine K0 (I l nm gl K A E env J _ H ad s z V R W) (λx S p=>?_) λ_ _ y=>y;obtain⟨n,t,v,q,X,c,i⟩:=p;refine K0 (F r nm gl L A E env J _ t n S z (V.step i c.au) c q) (λy g p=>?_) λ_ _ y=>y;obtain⟨u,B,w,q,N,j,m⟩:=p;exact k _ _ _ _ _ _ _ q (X.step m j.au) N j ((o.trans i R.au).trans m c.au)
theorem w7(k:fK κ G)(i:SE κ G C d a)(I:SE κ G C d b)(op:Cm):SE κ G C d (.bV op a b):=by intro e nm gl c A E env J Q H ad s h V R W;refine ay (bt c) λf g=>wpAny_Compare1 (ud i I f g h V R W Step.refl λad' H' s' v w x y q X j r S=>?_) (qk _ _ _ op.py);obtain⟨t,T,q⟩:=aQ q;exact Br k h r T X j λtk=>⟨ad',H',_,q,rfl,r.toks tk,S⟩
theorem u0(k:fK κ G)(i:SE κ G C d a)(I:SE κ G C d b)(op:Cm):ST κ G C d (.bV op a b):=by intro e nm gl c A E env J Q H ad s h V R W;refine ay (bt c) λf g=>wpAny_isTrue_Compare1 (ud i I f g h V R W (T:=λx y=>NP op.py x y) Step.refl λad' H' s' v w x y q X j r S=>?_) (qk _ _ _ op.py);obtain⟨t,l,q⟩:=aQ q;exact Br k h r l X j λtk=>Sz ⟨ad',H',q,r.toks tk,S⟩
theorem uZ(i:ST κ G C d a):ST κ G C d (.not a):=by intro e nm gl h A E env J Q H ad s f V R w;refine wpAny_isTrue_Not (K0 (i _ nm gl h A E env J _ H ad s f V R w) (λb c p=>?_) λ_ _ y=>y);exact let ⟨a,b,q,R,S⟩:=p;⟨a,b,q,R,S⟩
theorem A6{P Q:Prop}(h:if false=true then P else Q):Q:=h
theorem xO{c:Ex}(i:ST κ G C d c)(I:SE κ G C d a)(B:SE κ G C d b):SE κ G C d (.cF c a b):=by
 intro e nm gl j A E env J Q H ad s g V R w;refine m7 j λk l m=>wpAny_IfExp (K0 (i _ nm gl k A E env J _ H ad s g V R w) (λb f p=>?_) λ_ _ y=>y);obtain⟨D,h,q,r,S⟩:=p;induction b with
 |true=>exact K0 (I _ nm gl l A E env J _ h D f g (V.step S r.au) r q) (λ_ _ p=>p.trans S r.au) λ_ _ y=>y
 |false=>exact K0 (B _ nm gl m A E env J _ h D f g (V.step S r.au) r (A6 q)) (λ_ _ p=>p.trans S r.au) λ_ _ y=>y
def JT(κ:dz)(G:String->Option V)(C:Ctx)(d:Nat)(M:List Ex):Prop:=∀m∈M,ST κ G C d m
theorem vu:∀{es:List Ex} (i:JT κ G C d es),ST κ G C d (.and es):=by
 intro es i e nm gl f A E env J Q H ad s g V R w;refine R7 (?_ :KV _ A (allTrue .And (Ex.cP nm es (cu e)) env) _ E s);change Ex.hO nm gl es (cu e)=true at f;change Ex.zr G C es J Q H at w;generalize cu e=xs at f⊢;induction es generalizing xs Q H ad s with
 |nil=>exact KL ⟨ad,H,w,R,Step.refl⟩
 |cons m es I=>
  refine ay (bt f) λj k=>((KA (K0 (i m KJ _ nm gl j A E env J _ H ad s g V R w) (λb c p=>?_) λ_ _ y=>y)):KV _ A (QC (m.py nm (oN 0 xs)) env (Nz (m.py nm (oN 0 xs)) env)>>=_) _ E s);obtain⟨a,h,q,r,S⟩:=p;induction b with
  |true=>exact K0 (I (λm M=>i m (KP _ M)) Q h a c (V.step S r.au) r q _ k) (λ_ _ p=>jB.trans S r.au p) λ_ _ y=>y
  |false=>exact KL ⟨a,h,A6 q,r,S⟩
theorem xU:∀{es:List Ex} (i:JT κ G C d es),ST κ G C d (.or es):=by
 intro es i e nm gl f A E env J Q H ad s g V R w;refine R7 (?_ :KV _ A (allTrue .Or (Ex.cP nm es (cu e)) env) _ E s);change Ex.hO nm gl es (cu e)=true at f;change Ex.Em G C es J Q H at w;generalize cu e=xs at f⊢;induction es generalizing xs Q H ad s with
 |nil=>exact KL ⟨ad,H,w,R,Step.refl⟩
 |cons m es I=>
  refine ay (bt f) λj k=>((KA (K0 (i m KJ _ nm gl j A E env J _ H ad s g V R w) (λb c p=>?_) λ_ _ y=>y)):KV _ A (QC (m.py nm (oN 0 xs)) env (Nz (m.py nm (oN 0 xs)) env)>>=_) _ E s);obtain⟨a,h,q,r,S⟩:=p;induction b with
  |false=>exact K0 (I (λm M=>i m (KP _ M)) Q h a c (V.step S r.au) r (A6 q) _ k) (λ_ _ p=>jB.trans S r.au p) λ_ _ y=>y
  |true=>exact KL ⟨a,h,q,r,S⟩
theorem sx:pp κ G C d []:=λes nm gl c pos A E env J Q H ad s a V R h=>Rj ⟨ad,H,[],h,rfl,R,Step.refl⟩
theorem dn(m:Ex)(nm:Nm)(e:KN)(r:List KN)(env:Pl):Mi (m.py nm e::r) env=(false,Nz (m.py nm e) env)::Mi r env:=by
 cases m with
 |aE c=>cases c with
  |int i=>refine(?_ :Mi ((if i<0 then _ else _)::r) env=(false,Nz (if i<0 then _ else _) env)::_);split<;>rfl
  |_=>rfl
 |bi b=>induction b<;>rfl
 |_=>rfl
theorem rj(I:SE κ G C d m)(i:pp κ G C d M):pp κ G C d (m::M):=by intro es nm gl l pos A E env J Q H ad s j V R w;refine ay (bt l) λn o=>P3 (K0 (I _ nm gl n A E env J _ H ad s j V R w) (λx e p=>?_) λ_ _ y=>y) (dn _ _ _ _ env);obtain⟨D,h,v,q,X,r,S⟩:=p;refine K0 (i _ nm gl o pos A E env J _ h D e j (V.step S r.au) r q) (λxs k p=>?_) λ_ _ y=>y;obtain⟨c,f,vs,q,g,a,b⟩:=p;exact⟨c,f,v::vs,q,⟨x,xs,rfl,X.step b a.au,g⟩,a,S.trans b r.au⟩
end
variable {Ud:Hp} {Uc:Ad} {T':Heap} {D:Addr}
section
variable {A:Around}
theorem n2(R:bf κ H (ad.a9 D) s)(n:¬ad.z D)(h:κ.base.get? D=KF)(f:ik κ H (ad.a9 D) s.heap D x)(S:Step X Uc Ud T' ad H s.heap)(d:T'.get? D=KF){Q:PV}{k:Nat}{t:Int}
  (q:Q (.ref ⟨k,t,H.n⟩) (H.new k t x)):a' κ X Uc Ud T' Q (.ref D) s:=by
 refine⟨ad.aH ⟨k,t,H.n⟩ D,H.new k t x,_,q,?_,R.aH n h f,S.aH R.au d⟩;simp[aJ,Ad.aH,Hp.new]
theorem p9(R:bf κ H (ad.a9 D) s)(N:¬ad.z D)(h:κ.base.get? D=KF)(g:s.heap.get? D=U {cls:=.type "list",data:=.seq vs n})(z:vs.size<=LG)
  (f:aF κ H (ad.a9 D) s.heap xs vs.toList)(S:Step X Uc Ud T' ad H s.heap)(d:T'.get? D=KF){Q:PV}(q:newList xs Q H):a' κ X Uc Ud T' Q (.ref D) s:=by
 unfold ai.newList at q;refine KS q.2 (λq=>?_) λr=>g9 r λk t q=>n2 (x:=.list xs) R N h ⟨vs,n,g,z,f⟩ S d q;·exact⟨ad,H,_,q,⟨D,vs,n,rfl,⟨R.zf D (.inl rfl),N⟩,g,z,f.aL fe⟩,R.wy,S⟩
theorem ei(R:bf κ H ad s)(h:s.heap.get? D=KF):κ.base.get? D=KF:=by
 induction e:κ.base.get? D with
 |none=>rfl
 |some o=>have:=R.base _ _ e;replace this:=h▸this;exact al this
theorem f'(R:bf κ H ad s)(h:s.heap.get? D=KF):¬ad.z D:=λq=>by refine cV (R.k7 D q) λo e=>?_;rw[h] at e;exact al e
theorem ej(R:bf κ H ad s)(k:∀b o,s.heap.get? b=U o->s'.heap.get? b=U o)(G:s'.gens=s.gens)(a:s'.os=s.os)(h:s.heap.get? D=KF){xs:List V}{vs:Array KI}{n:Nat}
  (g:s'.heap.get? D=U {cls:=.type "list",data:=.seq vs n})(z:vs.size<=LG)(f:aF κ H ad s.heap xs vs.toList){Q:PV}(q:newList xs Q H):a' κ X ad H s.heap Q (.ref D) s':=
 p9 (R.a9 k G a h ⟨_,g⟩) (f' R h) (ei R h) g z (f.aL (cy k h)) (R.cX k) h q
theorem m2(R:bf κ H ad s)(k:∀b o,s.heap.get? b=U o->s'.heap.get? b=U o)(g:s'.gens=s.gens)(a:s'.os=s.os)(h:s.heap.get? D=KF)(d:∃o,s'.heap.get? D=U o)
  (f:ik κ H (ad.a9 D) s'.heap D x){Q:PV}{K:Nat}{t:Int}(q:Q (.ref ⟨K,t,H.n⟩) (H.new K t x)):a' κ X ad H s.heap Q (.ref D) s':=
 n2 (R.a9 k g a h d) (f' R h) (ei R h) f (R.cX k) h q
theorem bO(h:Heap)(o:K4):∀b x,h.get? b=U x->(h.push o).get? b=U x:=λ_ _ e=>KT o e
theorem aW(h:Heap){a:Lb}(z:h.objs.size<=a):h.get? a=KF:=by
 induction e:h.get? a with
 |none=>rfl
 |some o=>exact absurd (Lh e) (Pm.mpr z)
theorem qh(R:bf κ H ad s){vs:Array KI}(z:vs.size<=LG)(f:aF κ H ad s.heap xs vs.toList)(q:newList xs Q H):
  a' κ X ad H s.heap Q (.ref s.heap.objs.size) {s with heap:=s.heap.push {cls:=.type "list",data:=.seq vs}}:=
 ej (s':={s with heap:=s.heap.push {cls:=.type "list",data:=.seq vs}}) R (bO _ _) rfl rfl (aW _ (KX _)) (KY _ rfl) z f q
theorem n4(R:bf κ H ad s)(k:∀b o,s.heap.get? b=U o->s'.heap.get? b=U o)(G:s'.gens=s.gens)(a:s'.os=s.os)(h:s.heap.get? D=KF){xs:List V}{vs:Array KI}{n:Nat}
  (g:s'.heap.get? D=U {cls:=.type "tuple",data:=.seq vs n})(z:vs.size<=LG)(f:aF κ H ad s.heap xs vs.toList){Q:PV}(q:Q (.aA xs) H):a' κ X ad H s.heap Q (.ref D) s':=by
 have r:=R.a9 k G a h ⟨_,g⟩;exact⟨ad,H,_,q,⟨D,vs,n,rfl,⟨r.zf D (.inl rfl),f' R h⟩,g,z,(f.aL (cy k h)).aL fe⟩,r.wy,R.cX k⟩
theorem oz(R:bf κ H ad s){vs:Array KI}(z:vs.size<=LG)(f:aF κ H ad s.heap xs vs.toList){Q:PV}(q:Q (.aA xs) H):
  a' κ X ad H s.heap Q (.ref s.heap.objs.size) {s with heap:=s.heap.push {cls:=.type "tuple",data:=.seq vs}}:=
 n4 (s':={s with heap:=s.heap.push {cls:=.type "tuple",data:=.seq vs}}) R (bO _ _) rfl rfl (aW _ (KX _)) (KY _ rfl) z f q
theorem dy{n:Nat}(h:n<=aN):n<=LG:=by have:LG=16777216:=NO;unfold aN at h;exact bM (gF _ _) 0x78137f42405130100000068 rfl h (KQ this.symm)
theorem yg(i:pp κ G C d es):SE κ G C d (.aA es):=by intro e nm gl c A E env J Q H ad s f V R w;refine wpAny_Tuple (K0 (i _ nm gl c _ A E env J _ H ad s f V R w) (λxs b p=>?_) λ_ _ y=>y);obtain⟨a,h,vs,q,x,r,S⟩:=p;have z:=dy (x.length▸q.1);exact⟨z,a'.trans S r.au (oz r (by simpa using z) (by simpa using x) q.2)⟩
theorem vp(i:pp κ G C d es):SE κ G C d (.list es):=by intro e nm gl c A E env J Q H ad s f V R w;refine wpAny_List (K0 (i _ nm gl c _ A E env J _ H ad s f V R w) (λxs b p=>?_) λ_ _ y=>y);obtain⟨a,h,vs,q,x,r,S⟩:=p;have z:=dy (x.length▸gQ q);exact⟨z,a'.trans S r.au (qh r (by simpa using z) (by simpa using x) q)⟩
inductive Hj(h:Heap)(P:List KI->Prop)(x:KI):Prop
 |mk (a:Lb) (vs:Array KI) (n:Nat) (e:x=.ref a) (g:h.get? a=U {cls:=.type "list",data:=.seq vs n}) (z:vs.size<=LG) (r:P vs.toList)
theorem dc{xs:List V}{c:V}(R:bf κ H ad s)(h:cb H c=U xs)(e:aJ κ H ad s.heap c x):Hj s.heap (aF κ H ad s.heap xs) x:=by
 cases c with
 |fl ys=>
  (replace h:=KC h;subst h)
  obtain⟨a,vs,n,rfl,_,g,z,f⟩:=e;exact⟨a,vs,n,rfl,g,z,f⟩
 |ref r=>obtain⟨o,b,h⟩:=bG h;cases vP h;obtain⟨rfl,_⟩:=e;obtain⟨vs,n,g,z,f⟩:=R.obj _ _ b;exact⟨_,vs,n,rfl,g,z,f⟩
 |_=>exact al h
theorem eo{h:Heap}{a:Lb}(g:h.get? a=U {cls:=.type "list",data:=.seq vs n}):h.IsList a vs:=⟨_,g,rfl,n,rfl⟩
theorem kH{h:Heap}{a:Lb}(g:h.get? a=U {cls:=.type "tuple",data:=.seq vs n}):IsTup h a vs:=⟨_,g,rfl,n,rfl⟩
theorem bY(m:Ex)(nm:Nm)(e:KN)(o i:KI):subscripted (m.py nm e) false o i=operate [o,i] (getItem o i):=by
 cases m with
 |aE c=>cases c with
  |int j=>refine(?_ :subscripted (if j<0 then _ else _) false o i=_);split<;>rfl
  |_=>rfl
 |bi b=>induction b<;>rfl
 |_=>rfl
theorem zx{v:V}(h:jt xs i=U v):(0<=i/\xs[i.toNat]? =U v)\/(i<0/\0<=i+xs.length/\xs[(i+xs.length).toNat]? =U v):=by
 unfold jt at h;split at h;·exact .inl ⟨by assumption,h⟩
 ·split at h
  ·exact .inr ⟨by lia,by assumption,h⟩
  ·exact al h
theorem qY{v:V}{a:Lb}{c:KN}{m:Ex}{tag:Bool}(g:s.heap.get? a=U {cls:=.type (if tag then "list" else "tuple"),data:=.seq vs n})(z:vs.size<=LG)
  (f:aF κ H ad s.heap xs vs.toList)(h:jt xs i=U v){Q:KI->K2->Prop}(q:∀y,aJ κ H ad s.heap v y->Q y s):KV (K5 κ.prog κ.w) A (TS c (m.py nm e) (.ref a) (.int i u)) Q E s:=by
 have cQ:xs.length=vs.size:=Z f.length (Z Le rfl);have t:vs.size<=16777216:=hR NO z;refine KS (zx h) (λr=>ay r λd l=>?_) λR=>cH R λd l p=>?_
 ·refine aD (f.get l) λy o k=>?_
  have lt:i.toNat<vs.size:=hR cQ ((LC.mp l).1);have b:vs[i.toNat]? =U y:=by simpa using o
  induction tag with
  |true=>exact Om (eo g).typeIs Ox.lookup (wpAny_getItem_list (eo g) d (by omega) b (q _ k)) (bY _ _ _ _ _)
  |false=>refine Om (kH g).typeIs Sr.lookup (TU (kH g) (by omega) (by omega) (j:=i.toNat) ?_ b (q _ k)) (bY _ _ _ _ _);unfold seqIndex?;exact Z (if_neg (Rp.mpr d)) (Z (if_pos (by simp;omega)) rfl)
 ·refine aD (f.get p) λy o k=>?_
  rw[cQ] at l p o;have b:vs[(i+vs.size).toNat]? =U y:=by simpa using o
  induction tag with
  |true=>exact Om (eo g).typeIs Ox.lookup (wpAny_getItem_list_neg (eo g) d (by omega) (by omega) b (q _ k)) (bY _ _ _ _ _)
  |false=>refine Om (kH g).typeIs Sr.lookup (TU (kH g) (by omega) (by omega) (j:=(i+vs.size).toNat) ?_ b (q _ k)) (bY _ _ _ _ _);unfold seqIndex?;exact Z (if_pos d) (Z (if_pos (by simp;omega)) rfl)
theorem Eb(KO:fK κ G)(Z:cj d A)(R:bf κ H ad s){c v:V}(h:kY H c k=U v)(P:aJ κ H ad s.heap c x)(K:aJ κ H ad s.heap k y){j:KN}{m:Ex}{nm:Nm}{e:KN}{Q:KI->K2->Prop}
  (q:∀z tk,aJ κ H ad s.heap v z->Q z {s with toks:=tk}):KV (K5 κ.prog κ.w) A (TS j (m.py nm e) x y) Q E s:=by
 have I:∀{i:Int},k.fA=U i->∃u,y=.int i u:=λ{i} e=>by replace K:=(c2 e)▸K;exact K
 have str:∀{i:String},k.xk=U i->∃u,y=.str (KD i) u:=λ{i} e=>by replace K:=(ru e)▸K;exact K
 cases c with
 |fl xs=>obtain⟨a,vs,n,rfl,_,g,z,f⟩:=P;obtain⟨i,b,h⟩:=bG h;clear str;obtain⟨u,rfl⟩:=I b;exact qY (tag:=true) g z f h λy L=>q y s.toks L
 |aA xs=>obtain⟨a,vs,n,rfl,_,g,z,f⟩:=P;obtain⟨i,b,h⟩:=bG h;clear str;obtain⟨u,rfl⟩:=I b;exact qY (tag:=false) g z f h λy L=>q y s.toks L
 |ref r=>
  obtain⟨rfl,_⟩:=P;obtain⟨o,N,h⟩:=bG h;induction o with
  |list xs=>obtain⟨i,b,h⟩:=bG h;clear str;obtain⟨u,rfl⟩:=I b;obtain⟨vs,n,g,z,f⟩:=R.obj _ _ N;exact qY (tag:=true) g z f h λy L=>q y s.toks L
  |dI es=>
   obtain⟨i,b,h⟩:=bG h;clear str;obtain⟨u,rfl⟩:=I b;obtain⟨S,D,f⟩:=R.obj _ _ N;refine KS (gd (f:=id) (λ_ _ e=>e) f i) (λl=>ay l λw _=>?_) λp=>cR p λX x w W M=>?_;·replace h:=w▸h;exact al h
   ·replace h:=w▸h;clear w;cases h
    exact Om D.typeIs PR.lookup (SQ (Nq _ _ _ _) D.mapOf W (q _ _ M)) (bY _ _ _ _ _)
  |dS es=>
   obtain⟨i,b,h⟩:=bG h;clear I;obtain⟨u,rfl⟩:=str b;obtain⟨S,D,f⟩:=R.obj _ _ N;refine KS (gd cr f i) (λt=>ay t λw _=>?_) λB=>cR B λX x w W M=>?_;·replace h:=w▸h;exact al h
   ·replace h:=w▸h;clear w;cases h
    exact Om D.typeIs PR.lookup (SQ (OX _ _ _ _) D.mapOf W (q _ _ M)) (bY _ _ _ _ _)
  |dP es=>
   obtain⟨ks,hk,h⟩:=bG h;refine gc (kL hk K) λka C _ b=>?_;clear str I;subst C;obtain⟨S,D,f⟩:=R.obj _ _ N;have T:A.units+1<N6:=by have:=Z.units;have:N6=9900:=rfl;lia
   refine KS (hN f ks) (λF=>ay F λw _=>?_) λJ=>rv J λX a x w W M=>?_;·replace h:=w▸h;exact al h
   ·replace h:=w▸h;(replace h:=KC h;subst h)
    exact Om D.typeIs PR.lookup (wpAny_getItem_heap (i7 T) b D W (q _ _ M)) (bY _ _ _ _ _)
  |dN _=>exact al h
 |_=>exact al h
theorem yj(k:fK κ G)(I:SE κ G C d e)(a:SE κ G C d i):SE κ G C d (.sub e i):=by intro l nm gl c A E env J Q H ad s h V R W;refine ay (bt c) λb f=>Ss (ud I a b f h V R W Step.refl λad' H' s' v w x y q X g r S=>?_);obtain⟨u,j,q⟩:=aQ q;exact Eb k h r j X g λz tk Z=>⟨ad',H',u,q,Z,r.toks tk,S⟩
theorem tj(h:fits a):IntMulOk a b:=by refine IntMulOk.of_left (intBits_le_64 ?_ ?_)<;>have:=h.1<;>have:=h.2<;>unfold mc at* <;>lia
theorem yt(h:fits a):¬(Px a b)=true:=by
 unfold Px;simp only[Lu,decide_eq_true_eq,not_and];intro _ H;have c:a.natAbs.log2<64:=by
  by_cases z:a.natAbs=0;·refine Z z ?_;decide
  ·refine iR (Nat.log2_lt z) ?_
   have:=h.1;have:=h.2;unfold mc at*;omega
 have:(if(a==0)=true then 0 else a.natAbs.log2/30+1)<=3:=by
  split;·lia
  ·omega
 exact absurd (bM (gF _ _) 0x13031311319647813833 rfl H this) (Ll 0)
theorem ku{P:Int->Int->Prop}(e:h6 a b P)(E:aJ κ H ad h a x)(B:aJ κ H ad h b y):∃i j u v,x=.int i u/\y=.int j v/\P i j:=by obtain⟨i,c,e⟩:=aQ e;obtain⟨j,d,e⟩:=aQ e;rw[c2 c] at E;rw[c2 d] at B;obtain⟨u,rfl⟩:=E;obtain⟨v,rfl⟩:=B;exact⟨i,j,u,v,rfl,rfl,e⟩
theorem y9(R:bf κ H ad s)(e:aJ κ H ad s.heap a x)(B:aJ κ H ad s.heap b y)(h:bB (cb H a) λxs=>bB (cb H b) λys=>xs.length<=aN/\ys.length<=aN/\newList (xs++ys) Q H):
  KV (K5 κ.prog κ.w) A (Tx .Add x y) (a' κ X ad H s.heap Q) E s:=by
 obtain⟨xs,d,h⟩:=aQ h;obtain⟨ys,i,j,k,c⟩:=aQ h;obtain⟨a,vs,n,rfl,g,z,f⟩:=dc R d e;obtain⟨b,w,m,rfl,g',Z,F⟩:=dc R i B;have l:xs.length=vs.size:=by simp only[f.length,Le]
 have L:ys.length=w.size:=by simp only[F.length,Le]
 have hz:vs.size+w.size<=LG:=dy (by have:=gQ c;rw[KH] at this;exact bM (IA _ _ _ _ _) 0x1879137a138b131ba9 rfl (KQ l.symm) (KQ L.symm) this);exact P.add_list g g' (qh R (by simpa using hz) (by simpa using f.append F) c) hz
theorem FM(M:cj d A)(R:bf κ H ad s)(h:ub op a b Q H)(c:aJ κ H ad s.heap a x)(B:aJ κ H ad s.heap b y):
  KV (K5 κ.prog κ.w) A (Tx op.py x y) (a' κ X ad H s.heap Q) E s:=by
 have int:∀{i:Int} {t:Nat},Q (.int i) H->a' κ X ad H s.heap Q (.int i s.toks) {s with toks:=t}:=λq=>a'.hM R q ⟨_,rfl⟩;induction op with
 |add=>
  cases a with
  |int i=>obtain⟨j,o,_,_,h⟩:=aQ h;rw[c2 o] at B;obtain⟨_,rfl⟩:=c;obtain⟨_,rfl⟩:=B;exact P.add_int (int h)
  |aA xs=>
   obtain⟨ys,J,o,D,F,K⟩:=aQ h;rw[om J] at B;obtain⟨a,vs,n,rfl,_,g,z,f⟩:=c;obtain⟨b,W,m,rfl,_,g',S,G⟩:=B;have L:xs.length=vs.size:=by simp only[f.length,Le]
   have I:ys.length=W.size:=by simp only[G.length,Le]
   have N:∀{l:List V} {vs:Array KI},l.length=vs.size->l≠[]->¬vs.isEmpty=true:=λe k q=>k (List.length_eq_zero_iff.mp (by refine Z e ?_;simpa using q));have hz:vs.size+W.size<=LG:=dy (bM (IA _ _ _ _ _) 0x1879131ba9137a138b rfl F (KQ L.symm) (KQ I.symm));exact P.add_tuple g g' (N L o) (N I D) (oz R (by simpa using hz) (by simpa using f.append G) K) hz
  |_=>exact y9 R c B h
 |sub=>refine oT (ku h c B) λi j u v p r h=>?_;clear c;subst p;clear B;subst r;exact P.sub_int (int h.2.2)
 |mul=>refine oT (ku h c B) λi j u v w C h=>?_;clear c;subst w;clear B;subst C;exact P.mul_int (int h.2.2) (tj h.1)
 |IQ=>obtain⟨i,j,u,v,rfl,rfl,o,D,F⟩:=ku h c B;exact TR (λe=>N9 o (beq_iff_eq.mp e)) (yt D) (Z (Int.fdiv_eq_ediv_of_nonneg _ (QN o)) (int F))
 |Cy=>obtain⟨i,j,u,v,rfl,rfl,o,D⟩:=ku h c B;exact TQ (λe=>N9 o (beq_iff_eq.mp e)) (Z (Int.fmod_eq_emod_of_nonneg _ (QN o)) (int D))
theorem yw(i:SE κ G C d a)(I:SE κ G C d b)(op:Op):SE κ G C d (.hQ op a b):=by intro e nm gl c A E env J Q H ad s h V R W;exact ay (bt c) λf g=>wpAny_BinOp (ud i I f g h V R W (T:=λx y=>Tx op.py x y) Step.refl λad' H' s' v w x y q X j r S=>K0 (FM h r q X j) (λ_ _ p=>a'.trans S r.au p) λ_ _ y=>y)
theorem ss{h:Heap}{l u st:KI}:(h.push {cls:=.type "slice",data:=.fields #[l,u,st]}).IsSliceOf h.objs.size l u st:=SJ ..
theorem so(K:SE κ G C d e)(L:SE κ G C d i):SE κ G C d (.gj e i):=by
 intro e' nm gl M A E env J Q H ad s B V R W;obtain⟨N,P⟩:=bt M;refine Ss (K0 (K _ nm gl N A E env J _ H ad s B V R W) (λx k p=>?_) λ_ _ y=>y);obtain⟨D,l,v,q,X,c,S⟩:=p;refine wpAny_Slice ?_;simp only[TM];refine KL ?_;simp only[TL];refine K0 (L _ nm gl P A E env J _ l D k B (V.step S c.au) c q) (λy h p=>?_) λ_ _ y=>y;obtain⟨u,F,w,q,I,r,j⟩:=p;refine KL ?_;have X:=X.step j r.au;obtain⟨xs,T,q⟩:=aQ q;obtain⟨n,hn,q1,q2,q3⟩:=aQ q;rw[c2 hn] at I;obtain⟨a,vs,m,rfl,g,z,f⟩:=dc r T X;obtain⟨t,rfl⟩:=I;have g':=bO h.heap {cls:=.type "slice",data:=.fields #[.none,.int n t,.none]} _ _ g;refine Om (eo g').typeIs Ox.lookup (ops:=[_,_]) (QY (eo g') ss .none (.int _ _) .none (by simp) ?_ z) rfl
 (refine Z ((Rc q1).symm:n=((n.toNat:Nat):Int)) ?_;rw[slicePick_upto'])
 refine a'.trans (S.trans j c.au) r.au (ej (s':=⟨(h.heap.push _).push _,_,_,_,_⟩) r (λb o e=>bO _ _ _ _ (bO _ _ _ _ e)) rfl rfl ?_ (KY _ rfl) ?_ (xs:=xs.take n.toNat) ?_ q3);·exact aW _ (by simp only[MJ];exact Lv _)
 ·simp only[Rm,Mv,Le];exact KB (RW _ _) z
 ·simpa using f.take _
theorem xI(i:SE κ G C d e):SE κ G C d (.EY e):=by
 intro n nm gl j A E env J Q H ad s k V R w;refine Ss (K0 (i _ nm gl j A E env J _ H ad s k V R w) (λx S p=>?_) λ_ _ y=>y);obtain⟨D,h,v,q,X,r,c⟩:=p;refine wpAny_Slice ?_;simp only[TM];refine KL (KL ?_);simp only[TL];refine TJ (PG (P.neg_int ?_));obtain⟨xs,l,q⟩:=aQ q;obtain⟨a,vs,m,rfl,g,z,f⟩:=dc r l X;have g':=bO S.heap {cls:=.type "slice",data:=.fields #[.none,.none,.int (-1) (S.toks+1)]} _ _ g;refine Om (s:=⟨S.heap.push _,S.gens,S.drawn,S.toks+1+1,S.os⟩) (eo g').typeIs Ox.lookup (ops:=[_,_]) (QY (eo g') ss .none .none (.int _ _) (by decide) ?_ z) rfl;rw[krv_pick];refine a'.trans c r.au (ej (s':=⟨(S.heap.push _).push _,_,_,_,_⟩) r (λb o e=>bO _ _ _ _ (bO _ _ _ _ e)) rfl rfl ?_ (KY _ rfl) ?_ (xs:=xs.reverse) ?_ q);·exact aW _ (by rw[MJ];exact Lv _)
 ·simpa using z
 ·simpa using f.reverse
def g3(κ:dz)(C:Ctx)(d:Nat):Prop:=∀f vs Q H,C f vs Q H->∃fa,κ.fn f=U fa/\∀(xs:List KI) (ad:Ad) (s:K2) (A:NA) (E:KI->K2->Prop),wS d A->aF κ H ad s.heap vs xs->bf κ H ad s->
 OY (K5 κ.prog κ.w) A (.call (.ref fa) ⟨xs,[]⟩) (λr s'=>match r with |.ok (.ret v)=>a' κ dD ad H s.heap Q v s' |.ok _=>False |.error e=>E e s') s
theorem fS(nm:Nm)(pos:P9)(env:Pl):∀(M:List Ex) (es:List KN),(NK pos (Mi (Ex.cP nm M es) env)).any (·.1)=false
 |[],_=>rfl
 |m::M,es=>by refine(?_ :(NK pos (Mi (m.py nm (oN 0 es)::Ex.cP nm M es.tail) env)).any (·.1)=false);rw[dn];exact fS nm pos env M es.tail
theorem hi(i:pp κ G C d M)(e:Ex.hO nm gl M es=true){f:KI}(h:Sj κ.K f=true)(K:fK κ G){pos:P9}{env:Pl}{Q:List V->Hp->Prop}(g:cj d A)
  (V:EnvR κ nm gl env J H ad s.heap)(R:bf κ H ad s)(w:Ex.bh G C M J Q H){first:List KI}{P:KI->K2->Prop}
  (k:∀ad' H' s' vs xs,Q vs H'->aF κ H' ad' s'.heap vs xs->bf κ H' ad' s'->Step dD ad H s.heap ad' H' s'.heap->KV (K5 κ.prog κ.w) A (call f (first++xs)) P E s'):
  KV (K5 κ.prog κ.w) A (PU pos f first (NK pos (Mi (Ex.cP nm M es) env)) []) P E s:=by
 induction M using Lx with
 |nil=>exact callWith_K0 (K.EH.keeps R.base) h (k ad H s [] [] w rfl R Step.refl)
 |cons m M=>refine callWith_K (K.EH.keeps R.base) h (K0 (i es nm gl e pos A E env J _ H ad s g V R w) (λxs b p=>?_) λ_ _ y=>y) (dn _ _ _ _ env) (fS _ _ _ _ _);obtain⟨a,c,vs,q,x,r,S⟩:=p;exact⟨K.EH.keeps r.base,k _ _ _ _ _ q x r S⟩
theorem l7(k:fK κ G){env:Pl}(V:EnvR κ nm gl env J H ad s.heap)(R:bf κ H ad s)(h:gl.contains x=true)(X:fF x=true){y:KI}(a:κ.mg x=U y){pos:P9}{P:KI->K2->Prop}(q:P y s):
  KV (K5 κ.prog κ.w) A (Nz (.Name x pos) env) P E s:=by
 exact N8 V.kind (V.c5 _ h) (Qo (Z V.wB (k.g.keeps R.base)) a q) (hw X).1
theorem ni(k:fK κ G)(CO:g3 κ C d)(i:pp κ G C d es)(f:String):SE κ G C d (.call f es):=by
 intro e nm gl c A E env J Q H ad s a V R w;refine th c λn j x c=>?_;rw[V.gJ] at n;refine aD (k.JE f n) λfa b l=>Nj (l7 k V R j x l (hi i c (k.Do _ _ b) k a V R w λad' H' s' vs xs q X g S=>aD (CO _ _ _ _ q) λF h q=>?_));rw[b] at h
 (replace h:=KC h;subst h)
 refine Sg (Og (q xs ad' s' A E a.c X g) λr m p=>?_);induction r with
 |error e=>exact p
 |ok f=>induction f with
  |ret v=>exact a'.trans S g.au p
  |_=>exact p
theorem ux{A:NA}{c:Lb}{vals:List KI}(h:cj d A):wS d (A.under (.builtin "type.__call__" ⟨.ref c::vals,[]⟩)):=by
 refine⟨h.handled,?_,?_⟩;·simp only[depth_under_make];have:=h.depth;lia
 ·have:(A.under (.builtin "type.__call__" ⟨.ref c::vals,[]⟩)).units=A.units+(SL "type.__call__" ⟨.ref c::vals,[]⟩).cUnits:=rfl
  refine Z this ?_;have H:(SL "type.__call__" ⟨.ref c::vals,[]⟩).cUnits=1:=rfl;have:=h.units;lia
theorem xP(y:fK κ G)(CO:g3 κ C d)(W:pp κ G C d es)(K:String):SE κ G C d (.new K es):=by
 intro e nm gl L A E env J Q H ad s N V R Z;refine th L λhK hg hx L=>eH (y.E5 K hK) λc fa u F=>cH (y.J2 _ _ u) λg1 g2 aa=>?_;obtain⟨i1,i2⟩:=y.Im _ _ _ u F;refine Nj (l7 y V R hg hx g1 (hi W L g2 y N V R Z λad' H' s' vs xs q rx j S=>g9 q λk t q=>aD (CO _ _ _ _ q) λac a q=>?_));replace a:=F▸a
 (replace a:=KC a;subst a)
 refine Sg ?_;have X:=y.EH.keeps j.base;have P:∀b o,s'.heap.get? b=U o->((s'.heap.push N3).push (NY c s'.heap.objs.size)).get? b=U o:=λb o e=>bO _ _ _ _ (bO _ _ _ _ e);have gx:((s'.heap.push N3).push (NY c s'.heap.objs.size)).get? (s'.heap.objs.size+1)=U (NY c s'.heap.objs.size):=by have:=KY (s'.heap.push N3) (o:=NY c s'.heap.objs.size) rfl;rwa[MJ] at this
 obtain⟨h,g,M,tk,os⟩:=s';refine make_core (makes_of X aa) (looks_findIn X i1) (λself=>bind_fn X self i2) (.inl rfl) ?_;have B:ik κ H' (ad'.a9 h.objs.size) ((h.push N3).push (NY c h.objs.size)) h.objs.size (.dS []):=⟨[],(O9 h).push _,.nil⟩;have i:=(bf.a9 (s':=⟨(h.push N3).push (NY c h.objs.size),g,M,tk,os⟩) (D:=h.objs.size) j P rfl rfl (aW _ (KX _)) ⟨_,bO _ _ _ _ (KY _ rfl)⟩).aH (k:=k) (t:=t) (f' j (aW _ (KX _))) (ei j (aW _ (KX _))) B;have l:Step dD ad' H' h (ad'.aH ⟨k,t,H'.n⟩ h.objs.size) (H'.new k t (.dS [])) ((h.push N3).push (NY c h.objs.size)):=(bf.cX (s':=⟨(h.push N3).push (NY c h.objs.size),g,M,tk,os⟩) j P).aH j.au (aW _ (KX _));have T:aJ κ (H'.new k t (.dS [])) (ad'.aH ⟨k,t,H'.n⟩ h.objs.size) ((h.push N3).push (NY c h.objs.size)) (.eQ K ⟨k,t,H'.n⟩) (.ref (h.objs.size+1)):=by
  refine⟨_,c,rfl,⟨?_,λz=>?_⟩,u,by simpa[Ad.aH] using gx,LU _⟩
  ·rintro w;refine aD w λr hr e=>?_
   by_cases z:r=⟨k,t,H'.n⟩;·simp[Ad.aH,z] at e
   ·obtain⟨o,B⟩:=j.cZ (⟨r,by simpa[Hp.new,z] using hr,by simpa[Ad.aH,z] using e⟩:e3 H' ad' (h.objs.size+1))
    exact absurd (Lh B) (by refine(?_ :¬(h.objs.size+1<h.objs.size));omega)
  ·obtain⟨o,B⟩:=j.k7 _ z
   exact absurd (Lh B) (by refine(?_ :¬(h.objs.size+1<h.objs.size));omega)
 refine Og (q _ _ ⟨(h.push N3).push (NY c h.objs.size),g,M,tk,os⟩ _ E (ux N) ⟨_,xs,rfl,T,rx.step l i.au⟩ i) λr af p=>?_
 ·induction r with
  |error e=>exact p
  |ok f=>induction f with
   |ret v=>obtain⟨x,I,v',⟨rfl,q⟩,rv,m,n⟩:=p;refine⟨rv,x,I,_,q,T.step n m.au,m,(S.trans l j.au).trans n i.au⟩
   |_=>exact p.elim
theorem mw(k:fK κ G)(CO:g3 κ C d){K:String}{fs:List (String×V)}{fa:Lb}(R:bf κ H ad s)(e:aJ κ H ad s.heap (.eQ K r) x)(F:bC H r=U fs)(N:bc fs m=KF)(M:κ.fn (K++"."++m)=U fa)
  {nm:Nm}{gl:Gl}{env:Pl}{J:aV}(V:EnvR κ nm gl env J H ad s.heap){p:SV Bool}{Q:KI×List KI->K2->Prop}(q:Q (.ref fa,[x]) s):KV (K5 κ.prog κ.w) A (Q5 x (KD m) p) Q E s:=by
 refine El (rO k R e F) λa c es n i b l I D f=>ay f λL j=>?_;clear e;subst b;refine fj (k.get _ _ l) λo B P T=>ay (k.az _ _ _ _ l M) λt u=>?_;obtain⟨w,S⟩:=V.ns;refine method_inst (⟨S,R.base,V.above⟩:Fr κ.base env.locals s.heap w) k.EH I o t u (Z (L _) (KS (gd cr j m) (λg=>ay g λ_ z=>Z z rfl) λh=>eH h λv y z _=>?_)) q;replace z:=N▸z;exact al z
theorem sQ{o:Ex}{name:KR}{a pos:P9}{M:List Ex}{env:Pl}{P:KI->K2->Prop}(B:o.oa=false)(l:(a.endLine==pos.line)=true)(n:M.length<20)
  (h:KV (K5 κ.prog κ.w) A (Nz (o.py nm x) env) (λov S=>∀p,KV (K5 κ.prog κ.w) A (Q5 ov name p) (λr b=>KV (K5 κ.prog κ.w) A (PU pos r.1 r.2 (NK pos (Mi (Ex.cP nm M es) env)) []) P E b) E S) E s):
  KV (K5 κ.prog κ.w) A (Nz (.Call (.Attribute (o.py nm x) name a) (Ex.cP nm M es) [] pos) env) P E s:=by
 have cQ:∀(M:List Ex) (es:List KN),(NK pos (Mi (Ex.cP nm M es) env)).all (λx=>!x.1)=true/\(Ex.cP nm M es).length=M.length:=by
  intro M;induction M with
  |nil=>exact λ_=>⟨rfl,rfl⟩
  |cons m M i=>intro es;refine ay (i es.tail) λg j=>⟨(?_ :(NK pos (Mi (m.py nm (oN 0 es)::Ex.cP nm M es.tail) env)).all (λx=>!x.1)=true),congrArg (·+1) j⟩;rw[dn];exact g
 have H:Ts ((Ex.cP nm M es).length+([]:List Keyword).length) (NK pos (Mi (Ex.cP nm M es) env)) (backToKw pos (keywordEach [] env))=true:=by have k:backToKw pos (keywordEach [] env)=[]:=rfl;refine Z k ?_;unfold Ts;refine Z ((cQ M es).1) (Z ((cQ M es).2) ?_);simp;lia
 have c:TK true (o.py nm x) env a pos=pure pos:=by unfold TK;simp[l]
 rw[arm_eval_Call,tB B];refine KA (K0 h (λov S d=>KA (ML ?_)) λ_ _ e=>e);unfold methodCall;exact Z H (KA (LJ (K0 (d _) (λr b f=>KA (RL c f)) λ_ _ e=>e)))
theorem y1(R:bf κ H ad s){r:cq}(h:(H.o r).isSome=true)(S:MC (ad.f r) s.heap h')(a:ik κ (H.set r o) ad h' (ad.f r) o){Q:PV}{v:V}(q:Q v (H.set r o))(e:aJ κ H ad s.heap v x)(t:Nat):
  a' κ X ad H s.heap Q x {s with heap:=h',toks:=t}:=
 ⟨ad,H.set r o,v,q,e.step (R.kP (X:=X) h S a.ex) (Hp.dJ R.au h),R.zE h S a t,R.kP h S a.ex⟩
theorem oq(R:bf κ H ad s){r:cq}(h:(H.o r).isSome=true)(S:MC (ad.f r) s.heap h'){w:Array KI}(g:h'.get? (ad.f r)=U {cls:=.type "list",data:=.seq w n})(z:w.size<=LG)
  (f:aF κ H ad s.heap ys w.toList){Q:PV}{v:V}{x:KI}(q:Q v (H.set r (.list ys)))(e:aJ κ H ad s.heap v x)(t:Nat):a' κ X ad H s.heap Q x {s with heap:=h',toks:=t}:=
 y1 (o:=.list ys) R h S ⟨w,n,g,z,f.step (R.kP (X:=X) h S ⟨_,g⟩) (Hp.dJ R.au h)⟩ q e t
theorem u5(h:cj d A):A.units+5<N6:=by have:=h.units;have:N6=9900:=rfl;lia
theorem yF(i:cj d A)(R:bf κ H ad s){r:cq}{Q:PV}(b:H.o r=U (.list ys))(h:bB ys.getLast? λv=>Q v (H.set r (.list ys.dropLast))):
  KV (K5 κ.prog κ.w) A (call (.builtin "list.pop") [.ref (ad.f r)]) (a' κ dD ad H s.heap Q) E s:=by
 obtain⟨w,n,g,z,f⟩:=R.obj _ _ b;obtain⟨v,c,q⟩:=aQ h;rw[List.getLast?_eq_getElem?] at c;refine aD (f.get c) λy a e=>?_;simp only[f.length,Le,QA] at a;refine call_meets SK ⟨_,g,rfl⟩ F.entry_list_pop (F.args_list_pop_1 _) (MeetsSeq.list_pop_last (ad.f r) w n y a z) ⟨g,?_⟩;have pos:w.size-1<w.size:=(P7.mp a).1;refine oq (n:=_) R (bx b) (Mj ..) (TC g _) ?_ (ys:=ys.dropLast) ?_ q e _;·simp[Oi,pos];exact bM (gF _ _) 0x711381378 rfl z
 ·have:(w.eraseIdxIfInBounds (w.size-1)).toList=w.toList.dropLast:=by simp only[Oi,pos,dite_true,Qz];simp only[<-Le,List.eraseIdx_length_sub_one]
  simp only[this];exact f.dropLast
theorem r8(a:cj d A)(R:bf κ H ad s){r:cq}{Q:PV}(h:H.o r=U (.list ys))(X:aJ κ H ad s.heap v x)(hz:ys.length<aN)(q:Q .none (H.set r (.list (ys++[v])))):
  KV (K5 κ.prog κ.w) A (call (.builtin "list.append") [.ref (ad.f r),x]) (a' κ dD ad H s.heap Q) E s:=by
 obtain⟨w,n,g,z,f⟩:=R.obj _ _ h;refine Q4 ⟨n,g⟩ (λh' l S=>cV l λN g'=>oq R (bx h) S g' ?_ (ys:=ys++[v]) (Z Pp (f.append ⟨x,[],rfl,X,rfl⟩)) q rfl s.toks) z
 ·(refine Z (PM _) (hR Le (hR f.length ?_)))
  exact dy (Oj hz)
theorem tZ(i:cj d A)(R:bf κ H ad s){r:cq}{Q:PV}{u:List V}(a:H.o r=U (.list ys))(X:aJ κ H ad s.heap v x)(e:cb H v=U u)(hz:ys.length+u.length<=aN)(q:Q .none (H.set r (.list (ys++u)))):
  KV (K5 κ.prog κ.w) A (call (.builtin "list.extend") [.ref (ad.f r),x]) (a' κ dD ad H s.heap Q) E s:=by
 obtain⟨w,n,g,z,f⟩:=R.obj _ _ a;obtain⟨b,S,N,rfl,g',Z,c⟩:=dc R e X;have h:w.size+S.size<=LG:=dy (by simp only[<-Le,<-Le,<-f.length,<-c.length];exact hz);refine call_meets RS ⟨_,g,rfl⟩ F.entry_list_extend (F.args_list_extend_2 _ _) (AutoSeq1.list_extend_list_list_0 (ad.f r) w n b S N ?_ z (Lp h)) ⟨g,g',?_⟩
 ·simp only[Lu,not_and]
  intro _;unfold Tj;simp only[decide_eq_true_eq];exact Nat.not_lt_of_le (bM (ip _ _ _) 0x1879131879 rfl h)
 ·refine oq (n:=_) R (bx a) (Mj ..) (TC g _) ?_ (ys:=ys++u) ?_ q rfl _
  ·simpa using h
  ·simpa using f.append c
theorem xe(g:cj d A)(R:bf κ H ad s){r:cq}(c:H.o r=U (.list ys))(h:ih H (.ref r) m vs Q)(f:aF κ H ad s.heap vs xs):
  (m="append"/\KV (K5 κ.prog κ.w) A (call (.builtin "list.append") ([.ref (ad.f r)]++xs)) (a' κ dD ad H s.heap Q) E s)\/
  (m="pop"/\KV (K5 κ.prog κ.w) A (call (.builtin "list.pop") ([.ref (ad.f r)]++xs)) (a' κ dD ad H s.heap Q) E s)\/
  (m="extend"/\KV (K5 κ.prog κ.w) A (call (.builtin "list.extend") ([.ref (ad.f r)]++xs)) (a' κ dD ad H s.heap Q) E s):=by
 replace h:bB (H.o r) (Obj.cont H r m vs Q):=h;replace h:Obj.cont H r m vs Q (.list ys):=Eg c h;cases vs with
 |nil=>obtain rfl:xs=[]:=f;exact .inr (.inl ⟨h.1,yF g R c h.2.2⟩)
 |cons v vs=>
  obtain⟨rfl,h⟩:=h;obtain⟨x,_,rfl,X,rfl⟩:=f;refine KS h (λa=>cH a λe hz q=>.inl ⟨e,r8 g R c X hz q⟩) λb=>cH b λe _ h=>?_
  ·obtain⟨S,u,hz,q⟩:=aQ h
   exact .inr (.inr ⟨e,tZ g R c X u hz q⟩)
theorem xV(KO:fK κ G)(hA:cj d A)(R:bf κ H ad s){vs:List V}(v:kindOf H (.ref r)=U false)(h:ih H (.ref r) "get" vs Q)(f:aF κ H ad s.heap vs xs):
  KV (K5 κ.prog κ.w) A (call (.builtin "dict.get") ([.ref (ad.f r)]++xs)) (a' κ dD ad H s.heap Q) E s:=by
 have h:bB (H.o r) (Obj.cont H r "get" vs Q):=h;obtain⟨o,z,h⟩:=aQ h;have B:=u5 hA;have N:=e9 KO R (bx z);induction o with
 |list ys=>have v:(U r|>.bind H.o).map Obj.F8=U false:=v;replace v:=z▸(show(U r|>.bind H.o)=H.o r from rfl)▸v;exact(nomatch v)
 |dI es=>
  obtain⟨k,C,h⟩:=aQ h;obtain⟨i,I,_,q⟩:=aQ h;replace f:=(c2 I)▸(mZ C)▸f;obtain⟨K,D,J⟩:=R.obj _ _ z;obtain⟨x,_,rfl,⟨tk,rfl⟩,rfl⟩:=f;refine PT OQ D.typeIs P0 (R' _ _) (meets_dict_get (Mq κ.prog κ.w) (ad.f r) (Nq _ _ _ _) N) ⟨_,D.mapOf,KS (gd (f:=id) (λ_ _ e=>e) J i) (λc=>ay c λw W=>?_) λg=>cR g λv' x w W L=>?_⟩
  ·refine Z ((W:NW K i=KF)) ?_
   replace q:=w▸q;exact a'.hM R q rfl
  ·refine Z ((W:NW K i=U x)) ?_
   replace q:=w▸q;exact a'.hM R q L
 |dS _=>exact h.elim
 |dP es=>
  obtain⟨k,C,h⟩:=aQ h;obtain⟨M,S,_,q⟩:=aQ h;replace f:=(mZ C)▸f;obtain⟨K,D,J⟩:=R.obj _ _ z;obtain⟨x,_,rfl,X,rfl⟩:=f;refine gc (kL S X) λT j _ I=>?_;subst j;refine PT OQ D.typeIs P0 (R' _ _) (meetsH_dict_get _ (ad.f r) T N) ⟨i7 (KU (LO (by decide) _) B:A.units+1<N6),M,K,I,D,KS (hN J M) (λl=>ay l λw W=>?_) λm=>rv m λv' a x w W L=>?_⟩
  ·refine Z W ?_
   replace q:=w▸q;exact a'.hM R q rfl
  ·refine Z W ?_
   replace q:=w▸q;exact a'.hM R q L
 |dN es=>
  obtain⟨p,C,h⟩:=aQ h;obtain⟨M,S,_,q⟩:=aQ h;replace f:=(An C)▸f;obtain⟨K,D,J⟩:=R.obj _ _ z;obtain⟨x,_,rfl,X,y,_,rfl,ry,rfl⟩:=f;refine ay (w5 S X) λ_ b=>aD b λT n I=>?_;clear b X;subst n;refine PT OQ D.typeIs P0 (F.args_dict_get_3 _ _ _) (meetsH_dict_get_default _ (ad.f r) T N y) ⟨v8 B,M,K,I,D,KS (hN (P:=λ_=>True) (J.bv λ_ _ p=>⟨p.1,trivial,p.2.2⟩) M) (λt=>ay t λw W=>?_) λu=>rv u λv' a x w W L=>?_⟩
  ·refine Z W ?_
   replace q:=w▸q;exact a'.hM R q ry
  ·refine Z W ?_
   replace q:=w▸q;exact a'.hM R q L
theorem oC(i:pp κ G C d M)(e:Ex.hO nm gl M es=true){pos:P9}{env:Pl}{Q:List V->Hp->Prop}(g:cj d A)
  (V:EnvR κ nm gl env J H ad s.heap)(R:bf κ H ad s)(h:Ex.bh G C M J Q H){f:KI}{P:Args->K2->Prop}
  (k:∀ad' H' s' vs xs,Q vs H'->aF κ H' ad' s'.heap vs xs->bf κ H' ad' s'->Step dD ad H s.heap ad' H' s'.heap->P ⟨xs,[]⟩ s'):
  KV (K5 κ.prog κ.w) A (evalArgs f true (NK pos (Mi (Ex.cP nm M es) env)) []) P E s:=by
 induction M using Lx with
 |nil=>exact evalArgs_nil3 (k ad H s [] [] h rfl R Step.refl)
 |cons m M=>have p:=i es nm gl e pos A E env J _ H ad s g V R h;refine(?_ :KV _ A (evalArgs f true (NK pos (Mi (m.py nm (oN 0 es)::Ex.cP nm M es.tail) env)) []) _ E s);replace p:KV _ A (spliced (NK pos (Mi (m.py nm (oN 0 es)::Ex.cP nm M es.tail) env))) _ E s:=p;rw[(dn m nm (oN 0 es) (Ex.cP nm M es.tail) env)] at p⊢;refine OM (K0 p (λxs b p=>?_) λ_ _ y=>y);obtain⟨a,c,vs,q,x,r,S⟩:=p;exact k _ _ _ _ _ q x r S
theorem dt(i:pp κ G C d m)(h:Ex.hO nm gl m es=true){id:String}{pos:P9}{env:Pl}{Q:List V->Hp->Prop}(a:cj d A)
  (V:EnvR κ nm gl env J H ad s.heap)(R:bf κ H ad s)(w:Ex.bh G C m J Q H){first:List KI}{P:KI->K2->Prop}
  (k:∀ad' H' s' vs xs,Q vs H'->aF κ H' ad' s'.heap vs xs->bf κ H' ad' s'->Step dD ad H s.heap ad' H' s'.heap->KV (K5 κ.prog κ.w) A (call (.builtin id) (first++xs)) P E s'):
  KV (K5 κ.prog κ.w) A (PU pos (.builtin id) first (NK pos (Mi (Ex.cP nm m es) env)) []) P E s:=
 Qr (fS _ _ _ _ _) (oC i h a V R w k)
theorem i2(i:pp κ G C d m)(h:Ex.hO nm gl m es=true){pos:P9}{env:Pl}{Q:List V->Hp->Prop}(a:cj d A)
  (V:EnvR κ nm gl env J H ad s.heap)(R:bf κ H ad s)(w:Ex.bh G C m J Q H){P:KI->K2->Prop}
  (k:∀ad' H' s' vs xs,Q vs H'->aF κ H' ad' s'.heap vs xs->bf κ H' ad' s'->Step dD ad H s.heap ad' H' s'.heap->KV (K5 κ.prog κ.w) A (call (.type T) xs) P E s'):
  KV (K5 κ.prog κ.w) A (PU pos (.type T) [] (NK pos (Mi (Ex.cP nm m es) env)) []) P E s:=
 Pd (fS _ _ _ _ _) (oC i h a V R w k)
theorem wR{b:Bool}(h:kindOf H o=U b):∃r x,o=.ref r/\H.o r=U x/\x.F8=b:=by obtain⟨x,h,e⟩:=fz h;obtain⟨r,a,c⟩:=bG h;exact⟨r,x,uf a,c,e⟩
theorem xv(h:kindOf H o=U true):∃r xs,o=.ref r/\H.o r=U (.list xs):=by refine cR (wR h) λr x e a b=>?_;induction x<;>cases b;exact⟨r,_,e,a⟩
theorem tw(h:ik κ H ad s.heap a x)(n:x.F8=false):s.TypeIs (.ref a) "dict"/\∃o,s.heap.get? a=U o/\o.dict=KF:=by
 induction x with
 |list xs=>exact aK n.symm
 |dI es=>obtain⟨k,D,_⟩:=h;exact⟨D.typeIs,D.mapOf.noDict _ rfl⟩
 |dS es=>obtain⟨k,D,_⟩:=h;exact⟨D.typeIs,D.mapOf.noDict _ rfl⟩
 |dP es=>obtain⟨k,D,_⟩:=h;exact⟨D.typeIs,TF D _ rfl⟩
 |dN es=>obtain⟨k,D,_⟩:=h;exact⟨D.typeIs,TF D _ rfl⟩
theorem xu(k:fK κ G)(CO:g3 κ C d)(I:pp κ G C d es){K:String}(o:Ex.hO nm gl es xs=true){pos:P9}{env:Pl}(n:cj d A){ov:KI}(V:EnvR κ nm gl env J H ad s.heap)(R:bf κ H ad s)(x:aJ κ H ad s.heap (.eQ K r) ov)(S:Step dD Uc Ud T' ad H s.heap)
  (q:(bB (bC H r) λfs=>bc fs m=.none)/\bB (G (K++"."++m)) λ_=>Ex.bh G C es J (λvs h=>C (K++"."++m) (.eQ K r::vs) Q h) H){P:SV Bool}:
  KV (K5 κ.prog κ.w) A (Q5 ov (KD m) P) (λr c=>KV (K5 κ.prog κ.w) A (PU pos r.1 r.2 (NK pos (Mi (Ex.cP nm es xs) env)) []) (a' κ dD Uc Ud T' Q) E c) E s:=by
 obtain⟨fs,g,a⟩:=aQ q.1;obtain⟨_,t,u⟩:=aQ q.2;refine cV (k.Gw _ _ _ t) λfa b=>mw k CO R x g a b V (hi I o (k.Do _ _ b) k n V R u λad' H' s' vs xs q i j S'=>aD (CO _ _ _ _ q) λF l q=>?_);cases b.symm.trans l;refine Sg (Og (q (ov::xs) ad' s' A E n.c ⟨_,_,rfl,x.step S' j.au,i⟩ j) λr w p=>?_);induction r with
 |error e=>exact p
 |ok f=>induction f with
  |ret v=>exact a'.trans (S.trans S' R.au) j.au p
  |_=>exact p
theorem yi(L:fK κ G)(I:pp κ G C d es)(v:Ex.hO nm gl es xs=true){pos:P9}{env:Pl}(j:cj d A){ov:KI}(V:EnvR κ nm gl env J H ad s.heap)(R:bf κ H ad s)(X:aJ κ H ad s.heap o ov)(S:Step dD Uc Ud T' ad H s.heap)(st:bS H)
  (q:bB (kindOf H o) λk=>vx k m=true/\Ex.bh G C es J (λvs h=>kindOf h o=U k/\ih h o m vs Q) H){P:SV Bool}:
  KV (K5 κ.prog κ.w) A (Q5 ov (KD m) P) (λr l=>KV (K5 κ.prog κ.w) A (PU pos r.1 r.2 (NK pos (Mi (Ex.cP nm es xs) env)) []) (a' κ dD Uc Ud T' Q) E l) E s:=by
 obtain⟨k,K,M,q⟩:=aQ q;refine cR (wR K) λr x f z D=>?_;subst f;obtain⟨rfl,N⟩:=X;clear K;induction k with
 |true=>
  induction x with
  |list ys=>
   obtain⟨ws,n,g,_,_⟩:=R.obj _ _ z;have t:s.TypeIs (.ref (ad.f r)) "list":=⟨_,g,rfl⟩;have hd:∀a,Mu (ad.f r)=.ref a->∃B,s.heap.get? a=U B/\B.dict=KF:=λa e=>by(injection e with e;subst e);exact⟨_,g,rfl⟩
   have cY:∀ad' H' s' vs xs,(kindOf H' (.ref r)=U true/\ih H' (.ref r) m vs Q)->aF κ H' ad' s'.heap vs xs->bf κ H' ad' s'->Step dD ad H s.heap ad' H' s'.heap->∀{n:String},m=n->n="append"\/n="pop"\/n="extend"->
     KV (K5 κ.prog κ.w) A (call (.builtin ("list."++n)) ([.ref (ad.f r)]++xs)) (a' κ dD Uc Ud T' Q) E s':=by
    intro ad' H' s' vs xs q b c S' n T W;refine eH (xv q.1) λr' aa e w=>?_
    (injection e with e;subst e)
    have p:=xe (E:=E) j c w q.2 b;replace p:=(S'.ext r N)▸p;have tr:∀{x:KI} {u:K2},a' κ dD ad' H' s'.heap Q x u->a' κ dD Uc Ud T' Q x u:=λp=>a'.trans (S.trans S' R.au) c.au p;subst T;clear q M;clear q;rcases W with rfl |rfl |rfl
    ·rcases p with p |p |p
     ·exact K0 p.2 (λ_ _=>tr) λ_ _ y=>y
     ·exact absurd p.1 (by decide)
     ·exact absurd p.1 (by decide)
    ·rcases p with p |p |p
     ·exact absurd p.1 (by decide)
     ·exact K0 p.2 (λ_ _=>tr) λ_ _ y=>y
     ·exact absurd p.1 (by decide)
    ·rcases p with p |p |p
     ·exact absurd p.1 (by decide)
     ·exact absurd p.1 (by decide)
     ·exact K0 p.2 (λ_ _=>tr) λ_ _ y=>y
   have M:((m=="append"||m=="pop")||m=="extend")=true:=M;simp only[Mo,Mo,beq_iff_eq,beq_iff_eq,beq_iff_eq] at M;rcases M with(e |e) |e
   ·exact Z e (Oy t PH F.slot_list_append F.type_list_append hd (dt I v j V R q λad' H' s' vs xs q b c S=>cY _ _ _ _ _ q b c S e (.inl rfl)))
   ·exact Z e (Oy t PH SK F.type_list_pop hd (dt I v j V R q λad' H' s' vs xs q b c S=>cY _ _ _ _ _ q b c S e (.inr (.inl rfl))))
   ·exact Z e (Oy t PH RS F.type_list_extend hd (dt I v j V R q λad' H' s' vs xs q b c S=>cY _ _ _ _ _ q b c S e (.inr (.inr rfl))))
  |_=>exact aK D
 |false=>
  refine ay (tw (R.obj _ _ z) D) λt i=>aD i λB g1 g2=>?_;have hd:∀a,Mu (ad.f r)=.ref a->∃B,s.heap.get? a=U B/\B.dict=KF:=λa e=>by(injection e with e;subst e);exact⟨_,g1,g2⟩
  obtain rfl:m="get":=beq_iff_eq.mp M;refine Oy t F.plainAttrs_dict OQ F.type_dict_get hd (dt I v j V R q λad' H' s' vs xs q b c S'=>?_);have p:=xV (E:=E) L j c q.1 q.2 b;rw[S'.ext r N] at p;exact K0 p (λ_ _ p=>a'.trans (S.trans S' R.au) c.au p) λ_ _ y=>y
theorem nR(k:fK κ G)(CO:g3 κ C d)(I:SE κ G C d e)(i:pp κ G C d es)(m:String):SE κ G C d (.az e m es):=by
 intro o nm gl l A E env J Q H ad s c V R w;refine v6 l λL B n f h=>sQ (r1 B) L (of_decide_eq_true n) (K0 (I _ nm gl f A E env J _ H ad s c V R w) (λov g p P=>?_) λ_ _ y=>y);obtain⟨D,j,v,q,x,a,S⟩:=p;have b:=V.step S a.au;cases v with
 |eQ K r=>exact xu k CO i h c b a x S q
 |_=>exact yi k i h c b a x S a.au q
theorem yG{t:Bool}(h:truthy v=U t)(e:aJ κ H ad s.heap v x){Q:Bool->K2->Prop}(q:Q t s):KV (K5 κ.prog κ.w) A (Si x) Q E s:=by cases v<;>cases h;obtain rfl:x=.bool t:=e;exact Sz q
theorem jp(i:SE κ G C d m)(w:∀J Q H,m.qX G C J Q H->m.wp G C J (λv h=>bB (truthy v) λt=>Q t h) H)
  (f:∀e nm env,QC (m.py nm e) env (Nz (m.py nm e) env)=(do let v<-Nz (m.py nm e) env;standAt (m.py nm e).pos;holding [v] (Si v))):ST κ G C d m:=by
 intro e nm gl g A E env J Q H ad s j V R h;refine wpAny_isTrue_value (K0 (i e nm gl g A E env J _ H ad s j V R (w J Q H h)) (λx c p=>?_) λ_ _ y=>y) (f e nm env);obtain⟨a,b,v,q,X,r,S⟩:=p;obtain⟨t,T,q⟩:=aQ q;exact yG T X ⟨a,b,q,r,S⟩
theorem uA(i:Nat):ST κ G C d (.var i):=jp (qP i) (λJ Q H h=>h) λe nm env=>rfl
theorem tA(k:fK κ G)(CO:g3 κ C d)(i:pp κ G C d es)(f:String):ST κ G C d (.call f es):=jp (ni k CO i f) (λJ Q H h=>h) λe nm env=>rfl
theorem sc(k:fK κ G)(CO:g3 κ C d)(i:SE κ G C d e)(I:pp κ G C d es)(m:String):ST κ G C d (.az e m es):=jp (nR k CO i I m) (λJ Q H h=>h) λe nm env=>rfl
end
section
variable {A:Around} {h:Heap}
theorem jZ(R:bf κ H ad s){o:K4}(N:¬e3 H ad a)(f:¬ad.z a)(B:κ.base.get? a=KF)(g:s.heap.get? a=U o)(F:cv o)(h:MC a s.heap h')(E:∃o,h'.get? a=U o)(i:X a)(t:Nat):
  bf κ H ad {s with heap:=h',toks:=t}/\Step X ad H s.heap ad H h':=by
 have S:Step X ad H s.heap ad H h':=by
  refine⟨λb d e _ nx=>?_,λ_ _=>rfl,rfl,λ_ e n=>.inl ⟨e,n⟩,KX _,λ_ _=>KX _,λr _ j _ _=>⟨rfl,h.2 _ λz=>N ⟨r,j,z⟩⟩,λb d e=>?_⟩
  ·by_cases c:b=a
   ·clear E h B f N;subst c;rw[g] at e;(replace e:=KC e;subst e);exact absurd F (nx i)
   ·exact(h.2 b c).trans e
  ·by_cases c:b=a
   ·clear i h g B f N;subst c;exact E
   ·exact⟨d,(h.2 b c).trans e⟩
 refine⟨⟨λb d e=>?_,R.gens,R.os,R.au,R.inj,R.new,λr x e=>?_,R.zf,λb z=>?_,R.zb⟩,S⟩;·exact(h.2 b λc=>by clear i E h g f N;subst c;rw[B] at e;exact al e).trans (R.base b d e)
 ·exact(R.obj r x e).aL (S.aL R.au) (h.2 _ λz=>N ⟨r,by refine Z e ?_;rfl,z⟩)
 ·obtain⟨d,e⟩:=R.k7 b z
  exact⟨d,(h.2 b λc=>f (hR c z)).trans e⟩
structure h8(κ:dz)(nm:Nm)(gl:Gl)(env:Pl)(J:aV)(H:Hp)(ad:Ad)(h:Heap):Prop extends EnvR κ nm gl env J H ad h where
 DM:∀x i,nm.lookup x=U i->env.kindOf x=U .local\/(env.kindOf x=U .cell)
 cell:∀x c,env.cells.lookup x=U c->jD H ad c/\(∃w,h.IsCell c w)/\c≠env.locals/\κ.base.get? c=KF
 sd:∀x y c,env.cells.lookup x=U c->env.cells.lookup y=U c->x=y
 inj:∀x y i,nm.lookup x=U i->nm.lookup y=U i->x=y
theorem h8.step(V:h8 κ nm gl env J H ad h)(S:Step dD ad H h ad' H' h')(st:bS H'):h8 κ nm gl env J H' ad' h' where
 toEnvR:=V.toEnvR.step S st
 DM:=V.DM
 cell:=λx c C=>by exact fj (V.cell x c C) λi b n N=>eH b λw o a W=>⟨S.rs st a i,⟨w,o,S.keep _ _ a i.1 λf=>f.elim,W⟩,n,N⟩
 sd:=V.sd
 inj:=V.inj
def FX(env:Pl)(a:Lb):Prop:=a=env.locals\/∃x,env.cells.lookup x=U a
theorem jG(V:EnvR κ nm gl env J H ad h):κ.base.get? env.locals=KF:=aW _ V.above
theorem sM(V:h8 κ nm gl env J H ad h)(p:fJ ad H h ad H h'){i:Nat}(X:nm.lookup x=U i){v:ai.V}(cQ:i<J.length)
  (C:∀m,h.Ns env.locals m->∃M,h'.Ns env.locals M/\(∀y,y≠x->M y=m y))(l:∀y c,env.cells.lookup y=U c->y≠x->∀w,h.IsCell c w->h'.IsCell c w)
  (d:∀y c,env.cells.lookup y=U c->∃w,h'.IsCell c w)(s:FC κ env x (U v) H ad h'):∀y j,nm.lookup y=U j->FC κ env y ((J.set i (U v))[j]?).join H ad h':=by
 intro y j b;by_cases c:y=x
 ·clear l C;subst c
  rw[X] at b;obtain rfl:=KC b;exact Z (OA cQ) s
 ·exact Z (OT (λe=>c (V.inj _ _ _ b (hR e X)):i≠j)) (KS (V.var y j b) (λr=>ay r λk f=>.inl ⟨k,λw W=>cR (f w W) λm z N hz q=>aD (C m N) λM n e=>⟨M,z,n,(e y c).trans hz,q.aL p⟩⟩) λR=>ay R λk a=>lf a λg o I _ f=>.inr ⟨k,g,o,I,d y g o,λw W=>aD (f w W) λz hz q=>⟨z,l y g o c _ hz,q.aL p⟩⟩)
theorem r2(V:h8 κ nm gl env J H ad s.heap)(R:bf κ H ad s){i:Nat}(p:nm.lookup x=U i)(cQ:i<J.length)(e:aJ κ H ad s.heap v y):
  KV M A (storeName env x y) (λ_ s'=>h8 κ nm gl env (J.set i (U v)) H ad s'.heap/\bf κ H ad s'/\Step (FX env) ad H s.heap ad H s'.heap) E s:=by
 have hp:(env.scope.kind==.class||(env.scope.kind==.module&&env.locals !=env.globals))=false:=by refine Z V.kind ?_;rfl
 refine KS (V.DM x i p) (λk=>?_) λk=>?_
 ·obtain⟨m,j⟩:=V.ns
  refine Rr k j (λh' N l=>rX j λoL es ep gL dL kL fL=>?_) hp;have D:∃o,h'.get? env.locals=U o:=sp N λo _ _ g _=>⟨o,g⟩;refine ay (jZ (X:=FX env) R V.im.1 V.im.2 (jG V.toEnvR) gL (.inl ⟨es,ep,dL⟩) l D (.inl rfl) (s.toks+1)) λK S=>?_;have r:=S.aL R.au;have h:∀z c,env.cells.lookup z=U c->∀w,s.heap.IsCell c w->h'.IsCell c w:=λz c a w ⟨o,g,q⟩=>⟨o,(l.2 c (V.cell z c a).2.2.1).trans g,q⟩;refine⟨⟨⟨V.kind,V.wB,V.blt,⟨_,N⟩,V.above,V.im,sM V r p cQ (λb n=>?_) (λz c a _=>h z c a) (λz c a=>?_) (.inl ⟨k,λw W=>?_⟩),V.c5,V.gJ,V.ck⟩,V.DM,λz c a=>fj (V.cell z c a) λI B P t=>cV B λw W=>⟨I,⟨w,h z c a w W⟩,P,t⟩,V.sd,V.inj⟩,K,S⟩
  ·refine⟨_,N,λz hz=>rX n λaa Q T G d _ F=>?_⟩
   rw[gL] at G;obtain rfl:=KC G;replace d:=dL▸d
   (injection d with d;subst d)
   simp only[hz,if_false];simp only[<-F,<-fL]
  ·obtain⟨w,W⟩:=(V.cell z c a).2.1;exact⟨w,h z c a w W⟩
  ·(replace W:=KC W;subst W);exact⟨_,y,N,by simp,e.aL r⟩
 ·rcases V.var x i p with⟨k',_⟩ |⟨_,c,a,ic,⟨w,W⟩,_⟩
  ·rw[k] at k';exact(nomatch k')
  ·refine wpAny_storeName_cell V.kind k a W λh' f l=>aD W λoc gc dc=>?_
   have D:∃o,h'.get? c=U o:=aD f λo g _=>⟨o,g⟩;refine fj (V.cell x c a) λ_ _ nL t=>ay (jZ (X:=FX env) R ic.1 ic.2 t gc (.inr ⟨w,dc⟩) l D (.inr ⟨x,a⟩) s.toks) λK S=>?_;have r:=S.aL R.au;have h:∀z c',env.cells.lookup z=U c'->z≠x->∀w,s.heap.IsCell c' w->h'.IsCell c' w:=λz c' C hz w ⟨o,g,q⟩=>⟨o,(l.2 c' λq=>hz (V.sd z x c (hR q C) a)).trans g,q⟩;have L:∀z c',env.cells.lookup z=U c'->∃w,h'.IsCell c' w:=λz c' C=>by
    by_cases q:z=x;·clear h k p;subst q;rw[a] at C;obtain rfl:=KC C;exact⟨_,f⟩
    ·obtain⟨w,W⟩:=(V.cell z c' C).2.1;exact⟨w,h z c' C q w W⟩
   have u:∀m,s.heap.Ns env.locals m->h'.Ns env.locals m:=λm j=>j.sameBut l (Qg nL);refine⟨⟨⟨V.kind,V.wB,V.blt,let ⟨m,j⟩:=V.ns;⟨m,u m j⟩,V.above,V.im,sM V r p cQ (λb n=>⟨b,u b n,λ_ _=>rfl⟩) h L (.inr ⟨.inl k,c,a,ic,⟨_,f⟩,λw W=>?_⟩),V.c5,V.gJ,V.ck⟩,V.DM,λz c' C=>fj (V.cell z c' C) λI _ P t=>⟨I,L z c' C,P,t⟩,V.sd,V.inj⟩,K,S⟩
   (replace W:=KC W;subst W);exact⟨y,f,e.aL r⟩
inductive km(κ:dz)(nm:Nm)(gl:Gl)(env:Pl)(ad:Ad)(H:Hp)(h:Heap)(Q:aV->Hp->Prop)(s':K2):Prop
 |mk (ad':Ad) (H':Hp) (a:aV) (q:Q a H') (V:h8 κ nm gl env a H' ad' s'.heap) (R:bf κ H' ad' s') (S:Step (FX env) ad H h ad' H' s'.heap)
theorem km.trans{Q:aV->Hp->Prop}(S:Step (FX env) ad H h ad' H' h')(st:bS H')(p:km κ nm gl env ad' H' h' Q s):km κ nm gl env ad H h Q s:=
 let ⟨a,b,v,q,r,R,c⟩:=p;⟨a,b,v,q,r,R,S.trans c st⟩
def SG(κ:dz)(G:String->Option V)(C:Ctx)(d:Nat)(m:Tg):Prop:=
 ∀(e:KN) (nm:Nm) (gl:Gl),m.ok nm gl e=true->∀(A:NA) (E:KI->K2->Prop) (env:Pl) (J:aV) (Q:aV->Hp->Prop) (H:Hp) (ad:Ad) (s:K2) (v:V) (x:KI),
  cj d A->h8 κ nm gl env J H ad s.heap->bf κ H ad s->aJ κ H ad s.heap v x->m.wp G C v J Q H->KV (K5 κ.prog κ.w) A (QD (m.py nm e) env x) (λ_ s'=>km κ nm gl env ad H s.heap Q s') E s
theorem Step.fx(S:Step dD ad H h ad' H' h'):Step (FX env) ad H h ad' H' h':=S.bU λ_ f=>f.elim
theorem uI(i:Nat):SG κ G C d (.var i):=by intro e nm gl c A E env J Q H ad s v x a V R r h;exact SB (K0 (r2 V R (beq_iff_eq.mp (bt c).1) h.1 r) (λ_ s' p=>⟨ad,H,_,h.2,p.1,p.2.1,p.2.2⟩) λ_ _ y=>y)
set_option tactic.hygienic true in
theorem ul(R:bf κ H ad s){r:cq}(h:(H.o r).isSome=true)(i:∀b,X b->κ.base.get? b=KF/\¬e3 H ad b/\¬ad.z b)
  (k:∀b o,s.heap.get? b=U o->b≠ad.f r->¬X b->h'.get? b=U o)(F:∀b o,X b->s.heap.get? b=U o->cv o)(ex:∀b o,s.heap.get? b=U o->∃j,h'.get? b=U j)
  (d:Step X ad H s.heap ad (H.set r x) h'->ik κ (H.set r x) ad h' (ad.f r) x)(t:Nat):
  bf κ (H.set r x) ad {s with heap:=h',toks:=t}/\Step X ad H s.heap ad (H.set r x) h':=by
 have S:Step X ad H s.heap ad (H.set r x) h':=by
  refine⟨λb o e N nx=>k b o e (λq=>N ⟨r,h,q.symm⟩) λq=>nx q (F b o q e),λ_ _=>rfl,rfl,λq e n=>.inl ⟨?_,n⟩,KX _,λq _=>?_,λq _ Q _ e=>?_,ex⟩
  ·by_cases c:q=r
   ·clear n e d k;subst c;exact h
   ·simpa[Hp.set,c] using e
  ·refine(?_ :H.e4 q<=if q=r then H.e4 r+1 else H.e4 q)
   split
   ·rename_i c;clear d k h;subst c;exact bM (kT _) 463159 rfl
   ·exact KX _
  ·have c:q≠r:=by rintro rfl;simp[Hp.set] at e
   exact cV (R.cZ ⟨q,Q,rfl⟩) λo g=>⟨by simp[Hp.set,c],Z g (k _ _ g (λz=>c (R.inj _ _ Q h z)) λz=>(i _ z).2.1 ⟨q,Q,rfl⟩)⟩
 have f:∀z,((H.set r x).o z).isSome=true->(H.o z).isSome=true:=λz hz=>by
  by_cases c:z=r
  ·clear hz S d k;subst c;exact h
  ·simpa[Hp.set,c] using hz
 refine⟨⟨λb o e=>k b o (R.base b o e) (λq=>by subst q;replace e:=(R.new r h)▸e;exact al e) λq=>(by replace e:=((i b q).1)▸e;exact al e),R.gens,R.os,Hp.dJ R.au h,λp q P Q e=>R.inj p q (f p P) (f q Q) e,
  λq Q=>R.new q (f q Q),λq o e=>?_,λa q l=>R.zf a q ((Hp.gg h).mp l),λa q=>?_,R.zb⟩,S⟩
 ·by_cases c:q=r
  ·clear f k h;subst c
   simp[Hp.set] at e
   subst e;exact d S
  ·have E:H.o q=U o:=by simpa[Hp.set,c] using e
   have Q:(H.o q).isSome=true:=by refine Z E ?_;rfl
   exact cV (R.cZ ⟨q,Q,rfl⟩) λB g=>(R.obj q o E).aL (S.aL (Hp.dJ R.au h)) (Z g (k _ _ g (λz=>c (R.inj _ _ Q h z)) λz=>(i _ z).2.1 ⟨q,Q,rfl⟩))
 ·exact cV (R.k7 a q) λo e=>ex a o e
noncomputable def q9(B h:Heap)(d L:Lb):List (Lb×K4):=(LP h.objs.size).filterMap λb=>if b=d\/b=L\/(B.get? b).isSome=true then KF else(h.get? b).map (b,·)
set_option tactic.hygienic true in
theorem jQ{d b:Lb}{o:K4}:(b,o)∈q9 B h d L↔(b≠d/\b≠L/\B.get? b=KF/\h.get? b=U o):=by
 unfold q9
 refine iR Ny ?_
 constructor
 ·rintro q;refine aD q λc _ e=>?_
  split at e
  ·exact al e
  ·rename_i n
   refine aD (Oo.mp e) λj g e=>?_
   cases e
   simp only[not_or,Bool.not_eq_true,Option.isSome_eq_false_iff,Ni] at n
   exact⟨n.1,n.2.1,n.2.2,g⟩
 ·rintro Q;refine fj Q λa f i H=>?_
  refine⟨b,Sa.mpr (Lh H),Z (if_neg (by simp[a,f,i])) (Z H ?_)⟩;rfl
end
section
variable {A:Around} {h:Heap} {K:Type} [DecidableEq K] {K':Type} [DecidableEq K'] {f:K'->K} (hf:∀a b,f a=f b->a=b)
include hf
theorem n'{R:V->KI->Prop}{s:List (K×KI)}(h:eO (λe g=>f e.1=g.1/\R e.2 g.2) es s)(k:K'){v:V}(r:R v x):
  eO (λe g=>f e.1=g.1/\R e.2 g.2) (bA es k v) (bA s (f k) x):=by
 induction h with
 |nil=>exact .cons ⟨rfl,r⟩ .nil
 |@cons p q l m H d i=>
  obtain⟨a,w⟩:=p;obtain⟨b,y⟩:=q;simp only at H;by_cases c:a=k
  ·subst c
   simp only[dY,da,if_pos,H.1];exact .cons ⟨H.1,r⟩ d
  ·have c':¬b=f k:=λe=>c (hf _ _ (H.1.trans e))
   simp only[dY,da,c,c',if_false];exact .cons H i
end
section
variable {A:Around} {h:Heap}
theorem xB{K b:Type}[DecidableEq K](l:List (K×b))(k:K)(v:b):(bA l k v).map (·.1)=if k∈l.map (·.1) then l.map (·.1) else l.map (·.1)++[k]:=by
 induction l with
 |nil=>simp[dY,da]
 |cons p l i=>
  obtain⟨a,w⟩:=p;by_cases c:a=k;·subst c;simp[dY,da]
  ·have c':¬k=a:=λe=>c e.symm
   simp only[dY,da,c,if_false,Ln,i,KM,c',false_or];split<;>simp
set_option tactic.hygienic true in
theorem uU{K c:Type}[DecidableEq K]{l:List (K×c)}(h:(l.map (·.1)).Nodup)(k:K)(v:c):((bA l k v).map (·.1)).Nodup:=by
 simp only[xB]
 split
 ·exact h
 ·rename_i n
  simp only[L7]
  refine⟨h,by simp,λa A b H=>?_⟩
  simp only[KG] at H
  subst H
  rintro rfl
  exact n A
set_option tactic.hygienic true in
theorem pY{K:Type}[DecidableEq K]{l:List (K×KI)}(h:(l.map (·.1)).Nodup)(k:K)(v:KI):stored l k v=bA l k v:=by
 unfold stored
 induction l with
 |nil=>rfl
 |cons p l i=>
  obtain⟨a,w⟩:=p
  simp only[Ln,K9] at h
  by_cases c:a=k
  ·clear i;subst c
   simp only[Sv,decide_true,Bool.true_or,if_true,Ln,dY,da]
   exact Z (map_store_of_not_mem _ _ _ h.1) rfl
  ·have:=i h.2
   simp only[Sv,Ln,dY,da,c,if_false,decide_false,Bool.false_or]
   split
   ·rename_i q;rw[if_pos q] at this;simp only[<-this]
   ·rename_i q;rw[if_neg q] at this;simp only[<-this];rfl
theorem Dp{K b:Type}[DecidableEq K](l:List (K×b))(k:K)(v:b):(bA l k v).length<=l.length+1:=by
 induction l with
 |nil=>simp[dY,da]
 |cons p l i=>
  obtain⟨a,w⟩:=p;by_cases c:a=k;·clear i;subst c;simp[dY,da]
  ·simp only[dY,da,c,if_false,Lr];exact bM (gF _ _) 0x113711311381371138 rfl i
theorem xn{prog:L6}{w:MP}{name:KR}{hash:Int}:∀{es:List Mt} {K:List (KR×KI)},Pairs (L5 prog w) es K->
  Pairs (L5 prog w) (Tz name hash (.str name t) v es) (bA K name v):=by
 intro es K h;induction h with
 |nil=>exact .cons (OX _ _ _ _) rfl .nil
 |@cons e kv es K H a b i=>
  obtain⟨k,y⟩:=kv;have q:e.key.isStr name=decide (k=name):=by
   refine Z (isStr_of _ _) ?_;show(L5 prog w).is name e.key=_;refine Z (KeyKind.is_eq_decide H name) ?_;by_cases c:k=name;·simp[c]
   ·exact Z (decide_eq_false c) (Z (decide_eq_false λz=>c z.symm) rfl)
  show Pairs _ (if e.key.isStr name=true then _ else _) (if k=name then _ else _);refine Z q ?_;by_cases c:k=name;·exact Z (decide_eq_true c) (Z (if_pos rfl) (Z (if_pos c) (.cons H rfl b)))
  ·exact Z (decide_eq_false c) (Z (if_neg LW) (Z (if_neg c) (.cons H a i)))
theorem pP{w:MP}{name:KR}:∀{es:List Mt},(∀e∈es,∃k,(L5 prog w).is k e.key=true/\e.hash=(L5 prog w).hash k)->
  ∀e∈Tz name (Rx w.params name) (.str name t) v es,∃k,(L5 prog w).is k e.key=true/\e.hash=(L5 prog w).hash k
 |[],_,e,he=>by simp only[Tz,KG] at he;subst he;exact⟨name,OX _ _ _ _,rfl⟩
 |E::es,h,e,he=>by
  simp only[Tz] at he;split at he
  ·rcases KM.mp he with rfl |he
   ·exact h E KJ
   ·exact h e (KP _ he)
  ·rcases KM.mp he with rfl |he
   ·exact h e KJ
   ·exact pP (λx H=>h x (KP _ H)) e he
theorem CN{K:List (KR×KI)}{prog:L6}{w:MP}(D:h.DictOf (L5 prog w) a K):
  ∃es n,h.get? a=U (QE es n)/\Pairs (L5 prog w) es K/\(∀e∈es,∃k,(L5 prog w).is k e.key=true/\e.hash=(L5 prog w).hash k)/\(K.map (·.1)).Nodup:=by
 refine uJ D λo es ep f b hd g p N=>?_;obtain⟨H,c,d⟩:=b;obtain⟨C,i,A,l⟩:=o;simp only at H c d hd;subst H c d hd;exact⟨es.toList,ep,by simpa[QE] using f,p,λe E=>g e (OO.mp E),N⟩
theorem lR{name:KR}{hash:Int}{key:KI}:∀es:List Mt,(Tz name hash key v es).length<=es.length+1
 |[]=>by simp[Tz]
 |e::es=>by
  simp only[Tz];split;·simp
  ·have:=lR (name:=name) (hash:=hash) (key:=key) (v:=v) es
   simp only[Lr];exact bM (gF _ _) 0x113711311381371138 rfl this
theorem s2(KO:fK κ G)(V:h8 κ nm gl env J H ad s.heap)(R:bf κ H ad s){K:String}{fs:List (String×ai.V)}(e:aJ κ H ad s.heap (.eQ K r) x)(ev:aJ κ H ad s.heap v y)
  (hf:bC H r=U fs)(a2:gB.contains f=true)(hz:fs.length<900){Q:aV->Hp->Prop}(q:Q J (H.set r (.dS (bA fs f v)))):
  KV (K5 κ.prog κ.w) A (setAttr x (KD f) y) (λ_ s'=>km κ nm gl env ad H s.heap Q s') E s:=by
 have C:=bx (v1 hf);refine El (rO KO R e hf) λa c _ _ a3 L ag I D M=>ay M λ_ b1=>?_;clear e;subst L;refine Bm (CN D) λes n g hp hk hn=>fj (KO.get _ _ ag) λk1 k2 k3 k4=>ay (KO.JQ _ _ _ ag a2) λf1 f2=>?_;obtain⟨m,T⟩:=V.ns;have N:News κ.base env.locals s.heap ((ad.f r,QE es n)::q9 κ.base s.heap (ad.f r) env.locals):=by
  intro p P;rcases KM.mp P with rfl |P
  ·exact⟨g,(λz=>V.im.1 ⟨r,C,z⟩:ad.f r≠env.locals),R.new r C⟩
  ·obtain⟨b,o⟩:=p
   exact fj (jQ.mp P) λh1 h2 h3 h4=>⟨h4,h2,h3⟩
 have an:∀p∈q9 κ.base s.heap (ad.f r) env.locals,p.1≠ad.f r:=λp P=>by obtain⟨b,o⟩:=p;exact(jQ.mp P).1
 have cQ:es.length=fs.length:=Z hp.length (hR b1.length rfl);have bd:(getL (KD f) es).isSome=true:=by
  unfold getL;split;·rfl
  ·have nk:es.any (·.refKey)=false:=by rw[Ro];intro e he;refine aD (hk e he) λk bi _=>?_;obtain⟨t,ht⟩:=QO bi;simp[QG,ht]
   rw[nk];rfl
 refine set_dict (⟨T,R.base,V.above⟩:Fr κ.base env.locals s.heap m) KO.EH N (⟨I.at_,rfl,rfl,g⟩:InstAt s.heap a (NY c (ad.f r)) c (U (QE es n))) rfl k4 k3 f2 k2 bd rfl (.head an) ?_ λh' F' N'=>?_
 ·have:=lR (name:=KD f) (hash:=Rx κ.w.params (KD f)) (key:=.str (KD f) (s.toks+1)) (v:=y) es
  exact bM (ip _ _ _) 0x7003e8513113800384513981371139 rfl hz (KQ cQ) this
 ·have kp:∀b o,s.heap.get? b=U o->b≠ad.f r->¬b=env.locals->h'.get? b=U o:=λb o e h1 h2=>by
   induction z:κ.base.get? b with
   |some o'=>have:=R.base _ _ z;rw[e] at this;obtain rfl:=KC this;exact F'.keep _ _ z
   |none=>exact(N' _ (KP _ (jQ.mpr ⟨h1,h2,z,e⟩))).1
  have gd:=(N' _ KJ).1;simp only at gd;refine rv T λoL bk bn gL dL _=>rv F'.ns λch b2 b3 bs ck _=>?_;refine ay (ul (X:=λb=>b=env.locals) (h':=h') (x:=.dS (bA fs f v)) R C (λb hb=>by subst hb;exact⟨jG V.toEnvR,V.im.1,V.im.2⟩) kp
   (λb o hb e=>by subst hb;replace e:=gL▸e;obtain rfl:=KC e;exact .inl ⟨bk,bn,dL⟩)
   (λb o e=>by
    by_cases c1:b=ad.f r;·clear e;subst c1;exact⟨_,gd⟩
    ·by_cases c2:b=env.locals
     ·clear c1 e;subst c2;exact⟨_,bs⟩
     ·exact⟨_,kp b o e c1 c2⟩)
   (λS=>by
    refine⟨bA a3 (KD f) y,⟨_,_,_,gd,⟨rfl,rfl,rfl⟩,rfl,λe he=>pP hk e (by simpa using OO.mpr he),?_,uU hn _ _⟩,?_⟩;·simpa using xn hp
    ·refine(n' cr b1 f ev).bv λ_ _ p=>⟨p.1,p.2.step S (Hp.dJ R.au C)⟩)
   (s.toks+2)) λR' S=>?_;have Cy:=S.aL (Hp.dJ R.au C);refine⟨ad,_,J,q,⟨⟨V.kind,V.wB,V.blt,⟨m,F'.ns⟩,V.above,⟨λl=>V.im.1 ((Hp.gg C).mp l),V.im.2⟩,λx i hx=>?_,V.c5,V.gJ,V.ck⟩,V.DM,λx c hc=>?_,V.sd,V.inj⟩,R',(S.bU λb hb=>.inl hb:Step (FX env) ad H s.heap ad (H.set r (.dS (bA fs f v))) h')⟩
  ·rcases V.var x i hx with⟨k,ff⟩ |⟨k,c,hc,W,⟨w,ow,gw,hw⟩,ff⟩
   ·refine .inl ⟨k,λu hu=>cR (ff u hu) λb4 z aa hz qq=>⟨m,z,F'.ns,rX aa λF bw bD j B _ ap=>?_,qq.aL Cy⟩⟩
    refine rX T λcg bL bN d h _ as=>?_;replace d:=j▸d;(replace d:=KC d;subst d);replace h:=B▸h;(injection h with h;subst h);exact hR (as _) (Z (ap _) hz)
   ·refine fj (V.cell x c hc) λ_ _ nL _=>?_
    have a1:c≠ad.f r:=λz=>W.1 ⟨r,C,z.symm⟩;refine .inr ⟨k,c,hc,⟨λl=>W.1 ((Hp.gg C).mp l),W.2⟩,⟨w,ow,kp _ _ gw a1 nL,hw⟩,λu hu=>aD (ff u hu) λz ac qq=>aD ac λF j B=>?_⟩;exact⟨z,⟨F,kp _ _ j a1 nL,B⟩,qq.aL Cy⟩
  ·exact fj (V.cell x c hc) λW af nL nb=>eH af λw ow gw hw=>⟨⟨λl=>W.1 ((Hp.gg C).mp l),W.2⟩,⟨w,ow,kp _ _ gw (λz=>W.1 ⟨r,C,z.symm⟩:c≠ad.f r) nL,hw⟩,nL,nb⟩
theorem ty(k:fK κ G)(i:SE κ G C d e)(f:String):SG κ G C d (.ao e f):=by
 intro m nm gl h A E env J Q H ad s v x j V R X w;obtain⟨n,h⟩:=bt h;refine Z (assign_Attribute ..) (KA (LJ (K0 (i _ nm gl (bt h).2 A E env J _ H ad s j V.toEnvR R w) (λov c p=>?_) λ_ _ y=>y)));obtain⟨D,g,o,q,l,a,S⟩:=p;cases o with
 |eQ K r=>obtain⟨fs,b,hz,q⟩:=aQ q;refine KA (ML (KA (LJ (K0 (s2 k (V.step S a.au) a l (X.step S a.au) b n hz q) (λ_ s' p=>QX (km.trans S.fx a.au p)) λ_ _ y=>y))))
 |_=>exact q.elim
theorem qN{K:Type}[DecidableEq K]{R:V->KI->Prop}{P:K->Lb->Prop}{es:List (K×V)}{s:List (K×Lb×KI)}(h:eO (λe g=>e.1=g.1/\P e.1 g.2.1/\R e.2 g.2.2) es s)(n:(s.map (·.1)).Nodup)(k:K){v:V}(A:P k a)(r:R v x):
  eO (λe g=>e.1=g.1/\P e.1 g.2.1/\R e.2 g.2.2) (bA es k v) (storedH s k a x):=by
 unfold storedH;induction h with
 |nil=>exact .cons ⟨rfl,A,r⟩ .nil
 |@cons p q l m f j i=>
  obtain⟨b,w⟩:=p;obtain⟨c,y,z⟩:=q;refine cH f λe H d=>?_;clear f;obtain rfl:b=c:=e;have n:=K9.mp n;have i:=i n.2;by_cases C:b=k
  ·clear i A;clear i;subst C
   have e:(Pj ((b,y,z)::m) b).isSome=true:=by simp[Pj]
   exact Z (if_pos e) ((Z (if_pos rfl) (Z (if_pos rfl) (Z (map_putAt_of_not_mem _ _ _ n.1) (.cons ⟨rfl,H,r⟩ j)))):eO _ (if b=b then(b,v)::l else _) ((if b=b then(b,y,x) else(b,y,z))::m.map (putAt b x)))
  ·refine Z (by simp[Pj,C]:(Pj ((b,y,z)::m) k).isSome=(Pj m k).isSome) ((Z (if_neg C) ?_):eO _ (if b=k then _ else(b,w)::bA l k v) _)
   by_cases t:(Pj m k).isSome=true
   ·rw[if_pos t] at i⊢
    exact((Z (if_neg C) (.cons ⟨rfl,H,d⟩ i)):eO _ _ ((if b=k then _ else(b,y,z))::m.map (putAt k x)))
   ·rw[if_neg t] at i⊢
    exact .cons ⟨rfl,H,d⟩ i
theorem nP{n:Nat}(h:n<aN):n<=LG:=dy (Lq h)
theorem i'(R:bf κ H ad s){r:cq}{o:Obj}(h:(H.o r).isSome=true)(a:MC (ad.f r) s.heap h')(e:∃o,h'.get? (ad.f r)=U o)(b:fJ ad H s.heap ad (H.set r o) h'->ik κ (H.set r o) ad h' (ad.f r) o)(t:Nat):
  bf κ (H.set r o) ad {s with heap:=h',toks:=t}/\Step dD ad H s.heap ad (H.set r o) h':=
 have S:=R.kP (X:=dD) (x:=o) h a e
 ⟨R.zE h a (b (S.aL (Hp.dJ R.au h))) t,S⟩
theorem jg{P:L6}{w:MP}{K:Type}[DecidableEq K]{k:Sm P w K}{s:List (K×KI)}(D:h.DictOf k a s):(s.map (·.1)).Nodup/\∃o,h.get? a=U o:=by exact uJ D λo _ _ g _ _ _ _ n=>⟨n,o,g⟩
theorem hp{P:L6}{w:MP}{K:Type}[DecidableEq K]{k:RQ P w K}{s:List (K×Lb×KI)}(D:h.DictOfH k a s):(s.map (·.1)).Nodup/\∃o,h.get? a=U o:=by exact uJ D λo _ _ g _ _ _ _ n=>⟨n,o,g⟩
theorem uQ(KO:fK κ G)(T:cj d A)(R:bf κ H ad s){c:V}{Q:Hp->Prop}(h:gA H c k v Q)(N:aJ κ H ad s.heap c x)(j:aJ κ H ad s.heap k y)(J:aJ κ H ad s.heap v z){P:K2->Prop}
  (q:∀H' s',Q H'->bf κ H' ad s'->Step dD ad H s.heap ad H' s'.heap->P s'):KV (K5 κ.prog κ.w) A (setItem x y z) (λ_ s'=>P s') E s:=by
 have F:=u5 T;obtain⟨r,W,h⟩:=aQ h;obtain⟨o,g,h⟩:=aQ h;rw[uf W] at N;obtain⟨rfl,_⟩:=N;induction o with
 |list _=>exact h.elim
 |dI es=>obtain⟨i,I,hz,h⟩:=aQ h;rw[c2 I] at j;obtain⟨u,rfl⟩:=j;obtain⟨K,D,f⟩:=R.obj _ _ g;have n:(K.map (·.1)).Nodup:=(jg D).1;refine R4 (Nq _ _ _ _) D (λh' b m=>?_) (hR f.length (nP hz));simp only[pY n] at b;have t:∃o,h'.get? (ad.f r)=U o:=(jg b).2;obtain⟨w,S⟩:=i' (o:=.dI (bA es i v)) R (bx g) m t (λC=>⟨_,b,(n' (f:=id) (λ_ _ e=>e) f i J).bv λ_ _ p=>⟨p.1,p.2.aL C⟩⟩) (s.toks+1);exact q _ _ h w S
 |dS es=>obtain⟨i,I,hz,h⟩:=aQ h;rw[ru I] at j;obtain⟨u,rfl⟩:=j;obtain⟨K,D,f⟩:=R.obj _ _ g;have n:(K.map (·.1)).Nodup:=(jg D).1;refine R4 (OX _ _ _ _) D (λh' b m=>?_) (hR f.length (nP hz));simp only[pY n] at b;have t:∃o,h'.get? (ad.f r)=U o:=(jg b).2;obtain⟨w,S⟩:=i' (o:=.dS (bA es i v)) R (bx g) m t (λC=>⟨_,b,(n' cr f i J).bv λ_ _ p=>⟨p.1,p.2.aL C⟩⟩) (s.toks+1);exact q _ _ h w S
 |dP es=>obtain⟨B,L,hz,h⟩:=aQ h;obtain⟨X,rfl,Z,I⟩:=kL L j;obtain⟨K,D,f⟩:=R.obj _ _ g;have n:(K.map (·.1)).Nodup:=(hp D).1;refine Sd (i7 (KU (LO (by decide) _) F:A.units+1<N6)) I D (λh' b m=>?_) (hR f.length (nP hz));have t:∃o,h'.get? (ad.f r)=U o:=(hp b).2;exact ay (i' (o:=.dP (bA es B v)) R (bx g) m t (λC=>⟨_,b,(qN (P:=λ_=>jD H ad) f n B Z J).bv λ_ _ p=>⟨p.1,⟨λl=>p.2.1.1 ((Hp.gg (bx g)).mp l),p.2.1.2⟩,p.2.2.aL C⟩⟩) (s.toks+(tK κ.prog κ.w).draws B)) λw S=>q _ _ h w S
 |dN es=>obtain⟨B,L,hz,h⟩:=aQ h;obtain⟨M,X,rfl,I⟩:=w5 L j;rw[M] at j;obtain⟨K,D,f⟩:=R.obj _ _ g;have n:(K.map (·.1)).Nodup:=(hp D).1;refine Sd (v8 F) I D (λh' b m=>?_) (hR f.length (nP hz));have t:∃o,h'.get? (ad.f r)=U o:=(hp b).2;exact ay (i' (o:=.dN (bA es B v)) R (bx g) m t (λC=>⟨_,b,(qN (P:=λk a=>aJ κ H ad s.heap k.toV (.ref a)) f n B j J).bv λ_ _ p=>⟨p.1,p.2.1.aL C,p.2.2.aL C⟩⟩) (s.toks+(nK κ.prog κ.w).draws B)) λw S=>q _ _ h w S
theorem vL(K:fK κ G)(I:SE κ G C d e)(z:SE κ G C d i):SG κ G C d (.sub e i):=by intro N nm gl B A E env J Q H ad s v x m V R X W;refine ay (bt B) λF L=>Z (assign_Subscript ..) (KA (LJ (K0 (I _ nm gl F A E env J _ H ad s m V.toEnvR R W) (λov j p=>?_) λ_ _ y=>y)));obtain⟨D,k,o,q,M,a,b⟩:=p;have c:=V.step b a.au;refine KA (LJ (K0 (z _ nm gl L A E env J _ k D j m c.toEnvR a q) (λP n p=>?_) λ_ _ y=>y));obtain⟨h,t,w,q,rw,r,S⟩:=p;exact KA (ML (KA (LJ (uQ K m r q (M.step S r.au) rw ((X.step b a.au).step S r.au) λl u q f g=>QX ⟨h,l,J,q,(c.step S r.au).step g f.au,f,((b.trans S a.au).trans g r.au).fx⟩))))
def Jn(κ:dz)(G:String->Option V)(C:Ctx)(d:Nat)(t:List Tg):Prop:=∀m∈t,SG κ G C d m
theorem g8(m:Tg)(nm:Nm)(e:KN)(r:List KN)(env:Pl):MO (m.py nm e::r) env=(false,QD (m.py nm e) env)::MO r env:=by cases m<;>rfl
theorem vA(I:Jn κ G C d T):∀{es:List KN},Tg.hO nm gl T es=true->∀{xs:List KI} {vs:List V} {Q:aV->Hp->Prop} {H:Hp} {ad:Ad} {s:K2} {J:aV},cj d A->h8 κ nm gl env J H ad s.heap->bf κ H ad s->aF κ H ad s.heap vs xs->vs.length=T.length->
  Tg.bh G C T vs J Q H->KV (K5 κ.prog κ.w) A (Nc ((MO (Tg.cP nm T es) env).map (·.2)) xs) (λ_ s'=>km κ nm gl env ad H s.heap Q s') E s:=by
 induction T with
 |nil=>
  intro es e xs vs Q H ad s J h V R X cQ w;clear X;cases vs with
  |cons _ _=>exact(nomatch cQ)
  |nil=>exact KL ⟨ad,H,J,w,V,R,Step.refl⟩
 |cons t T i=>
  intro es e xs vs Q H ad s J h V R X cQ w;cases vs with
  |nil=>exact(nomatch cQ)
  |cons v vs=>obtain⟨x,xs,rfl,X,b⟩:=X;obtain⟨j,k⟩:=bt e;refine(?_ :KV _ A (Nc ((MO (t.py nm (oN 0 es)::Tg.cP nm T es.tail) env).map (·.2)) (x::xs)) _ E s);rw[g8];show KV _ A (holding xs (QD (t.py nm (oN 0 es)) env x)>>=λ_=>Nc ((MO (Tg.cP nm T es.tail) env).map (·.2)) xs) _ E s;refine KA (LJ (K0 (I t KJ _ nm gl j A E env J _ H ad s v x h V R X w) (λ_ f p=>?_) λ_ _ y=>y));obtain⟨D,g,c,q,a,r,S⟩:=p;exact K0 (i (λm M=>I m (KP _ M)) k h a r (b.step S r.au) (O8 cQ) q) (λ_ s' p=>km.trans S r.au p) λ_ _ y=>y
theorem hy(nm:Nm)(env:Pl):∀(T:List Tg) (es:List KN),(MO (Tg.cP nm T es) env).length=T.length/\(MO (Tg.cP nm T es) env).findIdx? (·.1)=KF
 |[],_=>⟨rfl,rfl⟩
 |t::T,es=>by
  refine ay (hy nm env T es.tail) λa b=>(?_ :(MO (t.py nm (oN 0 es)::Tg.cP nm T es.tail) env).length=_/\(MO (t.py nm (oN 0 es)::Tg.cP nm T es.tail) env).findIdx? (·.1)=KF)
  (rw[g8];refine Z (List.findIdx?_cons) ?_)
  exact⟨congrArg (·+1) a,by refine Z b ?_;rfl⟩
theorem uM(i:Jn κ G C d t):SG κ G C d (.aA t):=by
 intro j nm gl l A E env J Q H ad s v x c V R r h;cases v with
 |aA vs=>obtain⟨a,xs,n,rfl,I,g,z,f⟩:=r;obtain⟨L,m⟩:=hy nm env t (cu j);refine wpAny_assign_Tuple c.handled ⟨_,g,rfl,n,rfl⟩ (Z L (Z (by simp only[<-h.1,f.length,Le]:t.length=xs.size) rfl)) m λh' K=>?_;have k:∀b o,s.heap.get? b=U o->h'.get? b=U o:=λb o e=>K b o (MS (Lh e)) e;have q:bf κ H ad {s with heap:=h'}:=R.keeps k rfl rfl;have S':Step dD ad H s.heap ad H h':=bf.cX (s':={s with heap:=h'}) R k;exact K0 (vA i l c (V.step S' R.au) q (f.step S' R.au) h.1 h.2) (λ_ s' p=>km.trans S'.fx R.au p) λ_ _ y=>y
 |_=>exact h.elim
end
inductive Jv(κ:dz)(H:Hp)(ad:Ad)(h:Heap)(v:V)(f:Sn):Prop
 |mk (x:KI) (e:f=.ret x) (r:aJ κ H ad h v x)
def JL(κ:dz)(H:Hp)(ad:Ad)(h:Heap):Fl->Sn->Prop
 |.next,f=>f=.next
 |.ret v,f=>Jv κ H ad h v f
inductive di(κ:dz)(nm:Nm)(gl:Gl)(env:Pl)(ad:Ad)(H:Hp)(h:Heap)(Q:PS)(f:Sn)(s':K2):Prop
 |mk (ad':Ad) (H':Hp) (a:aV) (F:Fl) (q:Q F a H') (r:JL κ H' ad' s'.heap F f) (V:h8 κ nm gl env a H' ad' s'.heap) (R:bf κ H' ad' s') (S:Step (FX env) ad H h ad' H' s'.heap)
def SS(κ:dz)(G:String->Option V)(C:Ctx)(d:Nat)(m:St):Prop:=
 ∀(e:LH) (nm:Nm) (gl:Gl),m.ok nm gl e=true->∀(A:NA) (E:KI->K2->Prop) (env:Pl) (J:aV) (Q:PS) (H:Hp) (ad:Ad) (s:K2),
  cj d A->h8 κ nm gl env J H ad s.heap->bf κ H ad s->m.wp G C J Q H->KV (K5 κ.prog κ.w) A (exec (m.py nm e) env) (di κ nm gl env ad H s.heap Q) E s
def DS(κ:dz)(G:String->Option V)(C:Ctx)(d:Nat)(m:List St):Prop:=
 ∀(e:List LH) (nm:Nm) (gl:Gl),St.hO nm gl m e=true->∀(A:NA) (E:KI->K2->Prop) (env:Pl) (J:aV) (Q:PS) (H:Hp) (ad:Ad) (s:K2),
  cj d A->h8 κ nm gl env J H ad s.heap->bf κ H ad s->St.bh G C m J Q H->KV (K5 κ.prog κ.w) A (execs (St.cP nm m e) env) (di κ nm gl env ad H s.heap Q) E s
section
variable {A:Around} {h:Heap}
theorem di.trans{f:Sn}(S:Step (FX env) ad H h ad' H' h')(st:bS H')(p:di κ nm gl env ad' H' h' Q f s):di κ nm gl env ad H h Q f s:=
 let ⟨a,b,v,F,q,r,R,c,d⟩:=p;⟨a,b,v,F,q,r,R,c,S.trans d st⟩
theorem di.of{Q:PS}{b:Hp}{a:Ad}{f:Sn}{F:Fl}(V:h8 κ nm gl env J H ad h)(r:bf κ b a s)(S:Step dD ad H h a b s.heap)(q:Q F J b)(fr:JL κ b a s.heap F f):di κ nm gl env ad H h Q f s:=
 ⟨a,b,J,F,q,fr,V.step S r.au,r,S.fx⟩
theorem mr(V:h8 κ nm gl env J H ad h):interactive env=false:=by unfold interactive;refine Z V.kind ?_;rfl
theorem n3{m:Ex}(h:m.uE=false)(e:KN)(t:Option KN)(n:Nat)(env:Pl):swapsWith (m.py nm e) t n env=pure false:=by
 cases m with
 |aE c=>cases c with
  |int i=>refine(?_ :swapsWith (if i<0 then _ else _) t n env=_);split<;>rfl
  |_=>rfl
 |bi b=>induction b<;>rfl
 |comp=>exact aK h.symm
 |_=>rfl
theorem sY(i:SE κ G C d e):SS κ G C d (.expr e):=by intro k nm gl c A E env J Q H ad s f V R w;refine ay (bt c) λg j=>wpAny_Expr_any (K0 (i _ nm gl j A E env J _ H ad s f V.toEnvR R w) (λx b p=>?_) λ_ _ y=>y) (mr V) (n3 (r1 g) _ _ _ _);obtain⟨a,h,v,q,X,r,S⟩:=p;exact di.of V r S q rfl
theorem xl{e:Ex}(h:e.isNone=true):e=.aE .none:=by
 cases e with
 |aE c=>cases c with
  |none=>rfl
  |_=>exact aK h
 |_=>exact aK h
theorem uO(i:SE κ G C d e):SS κ G C d (.ret e):=by
 intro b nm gl h A E env J Q H ad s g V R w;refine(?_ :KV _ A (exec (.Return (match qa b with |[]=>KF |x::_=>U (e.py nm x)) b.pos) env) _ E s);replace h:(match qa b with |[]=>e.isNone |x::_=>e.ok nm gl x)=true:=h;generalize qa b=l at h⊢;induction l using Lx with
 |cons x r=>refine wpAny_Return_some (K0 (i _ nm gl h A E env J _ H ad s g V.toEnvR R w) (λx c p=>?_) λ_ _ y=>y);obtain⟨D,f,v,q,X,a,S⟩:=p;exact di.of V a S q ⟨_,rfl,X⟩
 |nil=>replace w:=(xl h)▸w;exact wpAny_Return_none (di.of V R Step.refl w ⟨_,rfl,rfl⟩)
theorem sa:DS κ G C d []:=λe nm gl c A E env J Q H ad s a V R h=>Qp (di.of V R Step.refl h rfl)
theorem rN(I:SS κ G C d m)(j:DS κ G C d M):DS κ G C d (m::M):=by
 intro o nm gl k A E env J Q H ad s g V R w;refine ay (bt k) λl n=>wpAny_execs_cons (K0 (I _ nm gl l A E env J _ H ad s g V R w) (λf e p=>?_) λ_ _ y=>y);obtain⟨a,h,b,F,q,fr,c,r,S⟩:=p;induction F with
 |next=>
  obtain rfl:f=.next:=fr
  exact K0 (j _ nm gl n A E env b _ h a e g c r q) (λf i p=>di.trans S r.au p) λ_ _ y=>y
 |ret v=>obtain⟨x,rfl,X⟩:=fr;exact⟨a,h,b,.ret v,q,⟨x,rfl,X⟩,c,r,S⟩
theorem vG{c:Ex}(I:ST κ G C d c)(j:DS κ G C d a)(B:DS κ G C d b):SS κ G C d (.cF c a b):=by
 intro o nm gl k A E env J Q H ad s i V R w;refine m7 k λl m n=>wpAny_If (K0 (I _ nm gl l A E env J _ H ad s i V.toEnvR R w) (λt e p=>?_) λ_ _ y=>y);obtain⟨D,h,q,r,S⟩:=p;have v:=V.step S r.au;induction t with
 |true=>exact K0 (j _ nm gl m A E env J _ h D e i v r q) (λf g p=>di.trans S.fx r.au p) λ_ _ y=>y
 |false=>exact K0 (B _ nm gl n A E env J _ h D e i v r (A6 q)) (λf g p=>di.trans S.fx r.au p) λ_ _ y=>y
theorem rU:SS κ G C d .raise:=λe nm gl c A E env J Q H ad s a V R h=>S7 h
theorem vy{x:KN}{pos:P9}{Q:Sn->K2->Prop}(H:OC [x] e pos.line env=pure false)
  (h:KV M A (Nz e env) (λv S=>KV M A (do assignStores env v (<-NE [x] e env) ((MO [x] env).map (·.2))) Q E S) E s):KV M A (exec (.Assign [x] e pos) env) Q E s:=by
 simp only[Tf];exact KA (ML (Z H (KA (KL (Z (if_neg (by decide)) (KA h))))))
theorem FW{c:Prop}[Decidable c]{a:Type}{x:a}:(if c then U x else KF)=KF\/(if c then U x else KF)=U x:=by
 by_cases h:c;·exact .inr (if_pos h)
 ·exact .inl (if_neg h)
theorem xf{g:KN->Option KR}(G:∀t,g t=KF\/g t=e0 t)(h:(NH g T).length=T.length):T.map e0=(NH g T).map U:=by
 induction T with
 |nil=>rfl
 |cons t T i=>
  simp only[Lg,Lr] at h;simp only[Lg];induction H:g t with
  |none=>replace h:=H▸h;exact absurd (K6 (LU _) (KB (KQ h.symm) (MU g T))) (M5 _)
  |some y=>
   rw[H] at h;refine KS (G t) (λe=>?_) λe=>?_;·replace H:=e▸H;exact al H
   ·refine Z Ln (hR e (Z H (Z (i (O8 (h:(NH g T).length+1=T.length+1))) ?_)));rfl
inductive Bc(nm:Nm)(t:Tg)(x:KN)(n:List KR):Prop
 |mk (T:List Tg) (e:t=.aA T) (h:T.length=2\/T.length=3) (H:(Tg.cP nm T (cu x)).map e0=n.map U) (hd:((Tg.cP nm T (cu x)).filterMap e0).Nodup)
theorem wD(nm:Nm):∀(t:List Tg) (es:List KN),(Tg.cP nm t es).length=t.length
 |[],_=>rfl
 |_::t,es=>congrArg (·+1) (wD nm t es.tail)
set_option tactic.hygienic true in
theorem sy(h:vY nm (.aA T) (.aA vs) x v=true):NE [.Tuple (Tg.cP nm T (cu x)) (hl x) x.pos] (.Tuple (Ex.cP nm vs (cu v)) (hl v) v.pos) env=pure KF\/
  ∃n,Bc nm (.aA T) x n/\NE [.Tuple (Tg.cP nm T (cu x)) (hl x) x.pos] (.Tuple (Ex.cP nm vs (cu v)) (hl v) v.pos) env=pure (U n):=by
 refine ay (bt h) λH a=>?_
 have l:=wD nm T (cu x)
 replace a:=of_decide_eq_true a
 replace H:=r1 H
 revert l H a
 generalize s:Tg.cP nm T (cu x)=es
 generalize Ex.cP nm vs (cu v)=u
 intro l a H
 unfold NE
 dsimp only
 by_cases c:(!(es.length==2||es.length==3)||u.length !=es.length||env.blockKind !=.function)=true
 ·exact .inl (if_pos c)
 refine Z (if_neg c) ?_
 split
 ·exact .inl rfl
 split
 ·exact .inl rfl
 rename_i C
 split
 ·exact .inl rfl
 refine Z (if_neg (by refine Z H ?_;decide)) ?_
 refine .inr ⟨_,⟨T,rfl,?_,?_,Z s a⟩,rfl⟩
 ·refine hR l ?_
  by_cases E:es.length=2
  ·exact .inl E
  ·refine .inr (PD λb=>c (Z (beq_eq_false_iff_ne.mpr E) (Z (beq_eq_false_iff_ne.mpr b) ?_)));rfl
 ·refine Z s (xf (λt=>?_) (PD λe=>C ?_))
  ·cases t<;>first |exact .inl rfl |skip
   exact FW
  ·refine Z (bne_iff_ne.mpr e) ?_;rfl
theorem pm(h:vY nm t m x v=true):NE [t.py nm x] (m.py nm v) env=pure KF\/∃n,Bc nm t x n/\NE [t.py nm x] (m.py nm v) env=pure (U n):=by
 cases t with
 |aA T=>
  cases m with
  |aA vs=>exact sy h
  |aE c=>cases c with
   |int i=>refine(?_ :NE _ (if i<0 then _ else _) env=_\/_);split<;>exact .inl rfl
   |_=>exact .inl rfl
  |bi b=>induction b<;>exact .inl rfl
  |_=>exact .inl rfl
 |_=>exact .inl rfl
theorem fN{t:Tg}{Q:Unit->K2->Prop}(h:KV M A (QD (t.py nm x) env v) Q E s):KV M A (SR v ((MO [t.py nm x] env).map (·.2))) Q E s:=by rw[g8];exact h
theorem DB:∀{T:List Tg} {es:List KN} {N:List KR},Tg.hO nm gl T es=true->(Tg.cP nm T es).map e0=N.map U->∃I:List Nat,T=I.map Tg.var/\N.map (λn=>nm.lookup n)=I.map U
 |[],es,N,c,h=>by
  cases N with
  |nil=>exact⟨[],rfl,rfl⟩
  |cons=>cases h
 |t::T,es,N,c,h=>by
  cases N with
  |nil=>cases h
  |cons n N=>
   refine ay (bt c) λH a=>?_;replace h:e0 (t.py nm (oN 0 es))::(Tg.cP nm T es.tail).map e0=U n::N.map U:=h;injection h with e E;refine aD (DB a E) λI r R=>?_;cases t with
   |var i=>have e:oV nm i=n:=KC e;have H:=beq_iff_eq.mp (bt H).1;rw[e] at H;exact⟨i::I,by refine Z r ?_;rfl,by refine Z Ln (Z H (Z R ?_));rfl⟩
   |_=>exact al e
theorem cI(V:h8 κ nm gl env J H ad s.heap)(R:bf κ H ad s){i:Nat}(X:nm.lookup x=U i)(cQ:i<J.length)(e:aJ κ H ad s.heap v y){Q:Unit->K2->Prop}
  (h:∀s',h8 κ nm gl env (J.set i (U v)) H ad s'.heap->bf κ H ad s'->Step (FX env) ad H s.heap ad H s'.heap->(∀w z,aJ κ H ad s.heap w z->aJ κ H ad s'.heap w z)->Q () s'):KV M A (PW env x y) Q E s:=
 wpAny_bindName (K0 (r2 V R X cQ e) (λ_ s' p=>h s' p.1 p.2.1 p.2.2 λ_ _ q=>q.aL (p.2.2.aL R.au)) λ_ _ y=>y)
theorem u7{P:List KR->List KI->Prop}{Q:aV->Hp->Prop}{s:List KR}{S:List Nat}{vs:List ai.V}(L:s.length=2\/s.length=3)(a:s.length=S.length)(w:vs.length=S.length)(b:s.map (λx=>nm.lookup x)=S.map U)(hd:s.Nodup)(f:aF κ H ad h vs xs)(W:Tg.bh G C (S.map Tg.var) vs J Q H)
  (p:∀n N i I v V X c,nm.lookup n=U i->nm.lookup N=U I->n≠N->i<J.length->I<J.length->aJ κ H ad h v X->aJ κ H ad h V c->Q ((J.set i (U v)).set I (U V)) H->P [n,N] [X,c])
  (r:∀n N d i I g v V j X c x3,nm.lookup n=U i->nm.lookup N=U I->nm.lookup d=U g->n≠N->n≠d->N≠d->i<J.length->I<J.length->g<J.length->aJ κ H ad h v X->aJ κ H ad h V c->aJ κ H ad h j x3->Q (((J.set i (U v)).set I (U V)).set g (U j)) H->P [n,N,d] [X,c,x3]):P s xs:=by
 rcases s with _ |⟨n,_ |⟨N,_ |⟨d,_ |⟨y,s⟩⟩⟩⟩
 ·rcases L with h |h<;>cases h
 ·rcases L with h |h<;>cases h
 ·rcases S with _ |⟨i,_ |⟨I,_ |⟨g,S⟩⟩⟩<;>first |cases a |skip
  rcases vs with _ |⟨v,_ |⟨V,_ |⟨j,vs⟩⟩⟩<;>first |cases w |skip
  obtain⟨X,R,rfl,F,c,t,rfl,k,rfl⟩:=f;injection b with a1 b;injection b with a2 _;refine cH W λm l q=>?_;rw[Mh] at l;exact p _ _ _ _ _ _ _ _ a1 a2 (λe=>(K9.mp hd).1 (Z e (Lc _))) m l F k q
 ·rcases S with _ |⟨i,_ |⟨I,_ |⟨g,_ |⟨z,S⟩⟩⟩⟩<;>first |cases a |skip
  rcases vs with _ |⟨v,_ |⟨V,_ |⟨j,_ |⟨A,vs⟩⟩⟩⟩<;>first |cases w |skip
  obtain⟨X,R,rfl,F,c,t,rfl,k,x3,B,rfl,u,rfl⟩:=f;injection b with a1 b;injection b with a2 b;injection b with a3 _;refine fj W λm l o q=>?_;rw[Mh] at l;rw[Mh,Mh] at o;have d1:=K9.mp hd;exact r _ _ _ _ _ _ _ _ _ _ _ _ a1 a2 a3 (λe=>d1.1 (Z e KJ)) (λe=>d1.1 (Z e (KP _ (Lc _)))) (λe=>(K9.mp d1.2).1 (Z e (Lc _))) m l o F k u q
 ·rcases L with h |h<;>cases h
theorem G3{i I:Nat}{h:ai.V}{X:KI}{Q:aV->Hp->Prop}(V:h8 κ nm gl env J H ad s.heap)(R:bf κ H ad s)(S:Step (FX env) ad H T' ad H s.heap)(a1:nm.lookup e=U i)(a2:nm.lookup g=U I)(N:i≠I)
  (L:i<J.length)(o:I<J.length)(F:aJ κ H ad s.heap h x)(p:aJ κ H ad s.heap j X)(q:Q ((J.set i (U h)).set I (U j)) H):
  KV M A (do Nc ([e,g].reverse.map λn=>PW env n) [x,X].reverse;pure O1) (di κ nm gl env ad H T' (λf J H=>f=.next/\Q J H)) E s:=by
 refine KA (NL (cI V R a2 o p λl a r b k=>NL (cI a r a1 (Z Mh L) (k _ _ F) λm v c d K=>SM (KL ?_))));rw[Pa _ _ N.symm] at v;exact⟨ad,H,_,.next,⟨rfl,q⟩,rfl,v,c,(S.trans b R.au).trans d r.au⟩
theorem HB{i I b:Nat}{w:ai.V}{X:KI}{Q:aV->Hp->Prop}(V:h8 κ nm gl env J H ad s.heap)(R:bf κ H ad s)(S:Step (FX env) ad H T' ad H s.heap)(a1:nm.lookup o=U i)(a2:nm.lookup p=U I)(a3:nm.lookup t=U b)
  (N:i≠I)(l:i≠b)(m:I≠b)(L:i<J.length)(F:I<J.length)(G:b<J.length)(P:aJ κ H ad s.heap u X)(T:aJ κ H ad s.heap w y)(W:aJ κ H ad s.heap x x3)(q:Q (((J.set i (U u)).set I (U w)).set b (U x)) H):
  KV M A (do Nc ([o,p,t].reverse.map λn=>PW env n) [X,y,x3].reverse;pure O1) (di κ nm gl env ad H T' (λf J H=>f=.next/\Q J H)) E s:=by
 refine KA (NL (cI V R a3 G W λz c r d k=>NL (cI c r a2 (Z Mh F) (k _ _ T) λB e a g K=>NL (cI e a a1 (by simp only[Mh,Mh];exact L) (K _ _ (k _ _ P)) λC v h j D=>SM (KL ?_)))));rw[Pa _ _ m.symm,Pa _ _ l.symm,Pa _ _ N.symm] at v;exact⟨ad,H,_,.next,⟨rfl,q⟩,rfl,v,h,((S.trans d R.au).trans g r.au).trans j a.au⟩
theorem u2{l:List KR}{Q:aV->Hp->Prop}(hA:cj d A)(V:h8 κ nm gl env J H ad s.heap)(R:bf κ H ad s)(rx:aJ κ H ad s.heap v x)
  (hc:Tg.hO nm gl t es=true)(hl:t.length=2\/t.length=3)(hn:(Tg.cP nm t es).map e0=l.map U)(hd:((Tg.cP nm t es).filterMap e0).Nodup)(hw:Tg.wp G C (.aA t) v J Q H):
  KV (K5 κ.prog κ.w) A (do rule "assign.swapped-stores";let I<-unpackItems x l.length KF;Nc (l.reverse.map λn=>PW env n) I.reverse;pure O1) (di κ nm gl env ad H s.heap (λf J H=>f=.next/\Q J H)) E s:=by
 refine aD (DB hc hn) λy p hi=>?_;clear hc;subst p;have D:l.Nodup:=by
  have:(Tg.cP nm (y.map Tg.var) es).filterMap e0=l:=by
   have e:(Tg.cP nm (y.map Tg.var) es).filterMap e0=((Tg.cP nm (y.map Tg.var) es).map e0).filterMap id:=by refine Z Rb ?_;rfl
   simp only[e,hn,Rb];simp
  rwa[this] at hd
 have N:=congrArg Oh hi;simp only[KE,KE] at N;have L:l.length=2\/l.length=3:=by refine Z N ?_;rwa[KE] at hl
 have hv:∃vs,v=.aA vs:=by
  clear rx;cases v with
  |aA vs=>exact⟨vs,rfl⟩
  |_=>exact S7 hw
 obtain⟨vs,rfl⟩:=hv;obtain⟨a,xs,n,rfl,ia,g,z,f⟩:=rx;obtain⟨w,W⟩:=hw;simp only[KE] at w;have hsz:l.length=xs.size:=by have:=f.length;simp only[Le] at this;lia
 refine KA (Ok (KA (Z hsz (wpAny_unpackItems_tuple hA.handled ⟨_,g,rfl,n,rfl⟩ λh' hk=>?_))));have K:∀b o,s.heap.get? b=U o->h'.get? b=U o:=λb o e=>hk b o (MS (Lh e)) e;have r:bf κ H ad {s with heap:=h'}:=R.keeps K rfl rfl;have S:Step dD ad H s.heap ad H h':=bf.cX (s':={s with heap:=h'}) R K;have c:=V.step S R.au;have F:=f.step S R.au;generalize h:({s with heap:=h'}:K2)=k;have eh:h'=k.heap:=hR h rfl;simp only[h] at r;simp only[eh] at c F S;clear h eh hk K;have u:∀{a b:KR} {i j:Nat},nm.lookup a=U i->nm.lookup b=U j->a≠b->i≠j:=λh1 h2 n e=>n (V.inj _ _ _ h1 (Z e h2));have S:Step (FX env) ad H s.heap ad H k.heap:=S.fx;exact u7 (P:=λl xs=>KV (K5 κ.prog κ.w) A (do Nc (l.reverse.map λn=>PW env n) xs.reverse;pure O1) _ E k) L N w hi D F W
  (λ_ _ _ _ _ _ _ _ a1 a2 m B M T X q=>G3 c r S a1 a2 (u a1 a2 m) B M T X q)
  λ_ _ _ _ _ _ _ _ _ _ _ _ a1 a2 a3 m aa ac B M l3 T X f3 q=>HB c r S a1 a2 a3 (u a1 a2 m) (u a1 a3 aa) (u a2 a3 ac) B M l3 T X f3 q
theorem di.next{Q:PS}{f:Sn}(p:di κ nm gl env ad H h (λf J H=>f=.next/\Q .next J H) f s):di κ nm gl env ad H h Q f s:=by obtain⟨a,b,c,F,⟨rfl,q⟩,r,V,R,S⟩:=p;exact⟨a,b,c,.next,q,r,V,R,S⟩
theorem pW(it:SG κ G C d t)(K:SE κ G C d e){pos:P9}(L:vY nm t e x v=true)(B:t.ok nm gl x=true)(M:e.ok nm gl v=true)(F:OC [t.py nm x] (e.py nm v) pos.line env=pure false)
  (u:cj d A)(V:h8 κ nm gl env J H ad s.heap)(R:bf κ H ad s)(W:St.wp G C (.a8 t e) J Q H):KV (K5 κ.prog κ.w) A (exec (.Assign [t.py nm x] (e.py nm v) pos) env) (di κ nm gl env ad H s.heap Q) E s:=by
 refine vy F (K0 (K _ nm gl M A E env J _ H ad s u V.toEnvR R W) (λX S p=>?_) λ_ _ y=>y);obtain⟨D,h,w,q,I,r,a⟩:=p;have b:=V.step a r.au;clear W F;rcases pm (env:=env) L with z |⟨N,⟨ts,rfl,P,T,hd⟩,z⟩
 ·refine Z z (KA (KL ((KA (fN (K0 (it _ nm gl B A E env J _ h D S w X u b r I q) (λ_ j p=>KL ?_) λ_ _ y=>y))):KV (K5 κ.prog κ.w) A (do SR X ((MO [t.py nm x] env).map (·.2));pure O1) _ E S)))
  obtain⟨c,k,g,q,l,m,o⟩:=p;exact⟨c,k,g,.next,q,rfl,l,m,a.fx.trans o r.au⟩
 ·exact Z z (KA (KL ((K0 (u2 u b r I B P T hd q) (λf j p=>(di.trans a.fx r.au p).next) λ_ _ y=>y):KV (K5 κ.prog κ.w) A (do rule "assign.swapped-stores";let i<-unpackItems X N.length KF;Nc (N.reverse.map λn=>PW env n) i.reverse;pure O1) _ E S)))
end
variable {I:Addr}
section
variable {A:Around} {h:Heap}
theorem dj(z:ad.z I)(k:LL I h h'):fJ ad H h ad H h':=⟨λb o e _ i=>⟨i,k b o (λq=>i.2 (Z q z)) e⟩,λ_ _=>rfl,KX _⟩
theorem bf.tU(R:bf κ H ad s)(i:ad.z I)(k:LL I s.heap h')(h:∃o,h'.get? I=U o)(t:Nat):bf κ H ad {s with heap:=h',toks:=t} where
 base:=λb o e=>k b o (λq=>by clear h k;subst q;rw[R.zb _ i] at e;exact al e) (R.base b o e)
 gens:=R.gens
 os:=R.os
 au:=R.au
 inj:=R.inj
 new:=R.new
 obj:=λr o e=>by have q:=R.obj r o e;obtain⟨B,g⟩:=q.ex;exact q.aL (dj i k) ((k _ _ (λz=>R.zf _ i ⟨r,by refine Z e ?_;rfl,z⟩) g).trans g.symm)
 zf:=R.zf
 k7:=λa q=>by
  by_cases c:a=I;·clear k i;subst c;exact h
  ·obtain⟨o,e⟩:=R.k7 a q;exact⟨o,k a o c e⟩
 zb:=R.zb
theorem gC{D:Lb}(k:LL D h h'):fJ (ad.a9 D) H h ad H h':=
 ⟨λb o e _ i=>⟨⟨i.1,λq=>i.2 (.inr q)⟩,k b o (λq=>i.2 (.inl q)) e⟩,λ_ _=>rfl,KX _⟩
theorem bf.iw(R:bf κ H (ad.a9 I) s)(n:¬ad.z I)(k:LL I s.heap h')(t:Nat):bf κ H ad {s with heap:=h',toks:=t} where
 base:=λb o e=>k b o (λq=>by clear k n;subst q;rw[R.zb _ (.inl rfl)] at e;exact al e) (R.base b o e)
 gens:=R.gens
 os:=R.os
 au:=R.au
 inj:=R.inj
 new:=R.new
 obj:=λr o e=>by have q:=R.obj r o e;obtain⟨B,g⟩:=q.ex;exact q.aL (gC k) ((k _ _ (λz=>R.zf _ (.inl rfl) ⟨r,by refine Z e ?_;rfl,z⟩) g).trans g.symm)
 zf:=λa q=>R.zf a (.inr q)
 k7:=λa q=>by obtain⟨o,e⟩:=R.k7 a (.inr q);exact⟨o,k a o (λc=>n (hR c q)) e⟩
 zb:=λa q=>R.zb a (.inr q)
theorem Step.hY(S:Step X Uc Ud T' ad H h)(i:T'.get? I=none)(k:LL I h h')(l:∀r,(H.o r).isSome=true->ad.f r≠I/\∃o,h.get? (ad.f r)=U o):Step X Uc Ud T' ad H h' where
 keep:=λb o e N nx=>k b o (λq=>by clear l k;subst q;rw[i] at e;exact al e) (S.keep b o e N nx)
 ext:=S.ext
 z:=S.z
 fresh:=S.fresh
 n:=S.n
 e4:=S.e4
 same:=λr R f c e=>by refine ay (S.same r R f c e) λa b=>?_;obtain⟨E,o,g⟩:=l r c;exact⟨a,(b).symm▸((S.ext r R)).symm▸Z g (k _ _ E g)⟩
 bv:=λb o e=>by obtain⟨d,j⟩:=S.bv b o e;exact⟨d,k b d (λq=>by clear l k;subst q;rw[i] at e;exact al e) j⟩
theorem bf.pM(R:bf κ H ad s)(z:ad.z I):∀r,(H.o r).isSome=true->ad.f r≠I/\∃o,s.heap.get? (ad.f r)=U o:=
 λr h=>⟨λq=>R.zf I z ⟨r,h,q⟩,R.cZ ⟨r,h,rfl⟩⟩
theorem EnvR.jY(V:EnvR κ nm gl env J H ad h)(l:fJ ad H h ad' H' h')(K:∀b o,FX env b->h.get? b=U o->jD H ad b->jD H' ad' b/\h'.get? b=U o):EnvR κ nm gl env J H' ad' h' where
 kind:=V.kind
 wB:=V.wB
 blt:=V.blt
 ns:=by obtain⟨m,o,es,ep,e,r⟩:=V.ns;exact⟨m,o,es,ep,(K _ _ (.inl rfl) e V.im).2,r⟩
 above:=V.above
 im:=by obtain⟨m,o,es,ep,e,r⟩:=V.ns;exact(K _ _ (.inl rfl) e V.im).1
 var:=λx i X=>by
  rcases V.var x i X with⟨k,f⟩ |⟨k,c,C,I,⟨w,o,n,W⟩,f⟩
  ·exact .inl ⟨k,λv d=>cR (f v d) λm y B g q=>sp B λo es ep e r=>⟨m,y,⟨o,es,ep,(K _ _ (.inl rfl) e V.im).2,r⟩,g,q.aL l⟩⟩
  ·exact .inr ⟨k,c,C,(K _ _ (.inr ⟨_,C⟩) n I).1,⟨w,o,(K _ _ (.inr ⟨_,C⟩) n I).2,W⟩,λv d=>aD (f v d) λy a q=>aD a λp j g=>⟨y,⟨p,(K _ _ (.inr ⟨_,C⟩) j I).2,g⟩,q.aL l⟩⟩
 c5:=V.c5
 gJ:=V.gJ
 ck:=V.ck
theorem h8.jY(V:h8 κ nm gl env J H ad h)(y:fJ ad H h ad' H' h')(k:∀b o,FX env b->h.get? b=U o->jD H ad b->jD H' ad' b/\h'.get? b=U o):h8 κ nm gl env J H' ad' h' where
 toEnvR:=V.toEnvR.jY y k
 DM:=V.DM
 cell:=λx c C=>by exact fj (V.cell x c C) λi B n N=>eH B λw o a W=>⟨(k _ _ (.inr ⟨_,C⟩) a i).1,⟨w,o,(k _ _ (.inr ⟨_,C⟩) a i).2,W⟩,n,N⟩
 sd:=V.sd
 inj:=V.inj
theorem h8.tU(V:h8 κ nm gl env J H ad h)(z:ad.z I)(k:LL I h h'):h8 κ nm gl env J H ad h':=
 V.jY (dj z k) λb o _ e i=>⟨i,k b o (λq=>i.2 (Z q z)) e⟩
theorem h8.iw(V:h8 κ nm gl env J H (ad.a9 I) h)(k:LL I h h'):h8 κ nm gl env J H ad h':=
 V.jY (gC k) λb o _ e i=>⟨⟨i.1,λq=>i.2 (.inr q)⟩,k b o (λq=>i.2 (.inl q)) e⟩
theorem h8.a9(V:h8 κ nm gl env J H ad h)(k:∀b o,h.get? b=U o->h'.get? b=U o)(a:h.get? I=none):h8 κ nm gl env J H (ad.a9 I) h':=
 V.jY (cy k a) λb o _ e i=>⟨⟨i.1,λq=>q.elim (λq=>by subst q;replace e:=a▸e;exact al e) i.2⟩,k b o e⟩
theorem Heap.ExtBut.Gh{a:Lb}:LL a h h:=λ_ _ _ e=>e
def gO(h:Heap)(a:Lb)(es:Array Mt)(ep:Nat):Prop:=∃o,h.get? a=U o/\o.ExactDict/\o.data=.dict es ep
def kf(κ:dz)(H:Hp)(ad:Ad)(h:Heap)(I:Lb):It->Prop
 |.cZ r i=>h.IsListIter I (ad.f r) i/\r.n<H.n
 |.bp l=>(∃t xs n i,h.IsTupleIter I t i/\jD H ad t/\h.get? t=U {cls:=.type "tuple",data:=.seq xs n}/\aF κ H ad h l (xs.toList.drop i))\/
   (∃t xs n i,h.IsListIter I t i/\jD H ad t/\h.get? t=U {cls:=.type "list",data:=.seq xs n}/\aF κ H ad h l (xs.toList.drop i))\/
   (∃x:Nat,IsRangeIter h I x l.length 1/\l=(LP l.length).map λ(k:Nat)=>V.int ((x+k:Nat):Int))
 |.dict r v l=>∃es ep i,h.IsKeyIter I (ad.f r) i es.size ep/\r.n<H.n/\v<=H.e4 r/\(H.e4 r=v->(H.o r).isSome=true->gO h (ad.f r) es ep)/\aF κ H ad h l ((es.toList.drop i).map (·.key))
theorem FZ{o:K4}{xs}(e:o.data=.fields xs):X I->¬cv o:=λ_=>k5 e
theorem kf.mv(K:∀o xs,h.get? I=U o->o.data=.fields xs->h'.get? I=U o)(T:∀t o,h.get? t=U o->¬cv o->jD H ad t->jD H' ad' t/\h'.get? t=U o)(C:∀l xs,aF κ H ad h l xs->aF κ H' ad' h' l xs)(R:∀r,r.n<H.n->r.n<H'.n/\ad'.f r=ad.f r)
  (kv:∀r v es ep,r.n<H.n->v<=H.e4 r->(H.e4 r=v->(H.o r).isSome=true->gO h (ad.f r) es ep)->v<=H'.e4 r/\(H'.e4 r=v->(H'.o r).isSome=true->gO h' (ad.f r) es ep)):∀{j:It},kf κ H ad h I j->kf κ H' ad' h' I j
 |.cZ r i,p=>by refine ay p λb N=>?_;obtain⟨o,a,c,hd⟩:=b;exact⟨⟨o,K _ _ a hd,c,(R r N).2.symm▸hd⟩,(R r N).1⟩
 |.bp l,p=>by
  refine p.elim (λp=>.inl ?_) λp=>p.elim (λp=>.inr (.inl ?_)) λp=>.inr (.inr (aD p λx g e=>⟨x,K _ _ g rfl,e⟩))
  ·refine tP p λt xs n i B it g f=>?_;obtain⟨o,a,c,hd⟩:=B
   have q:=T _ _ g (h5 rfl) it;exact⟨t,xs,n,i,⟨o,K _ _ a hd,c,hd⟩,q.1,q.2,C _ _ f⟩
  ·refine tP p λt xs n i d it g f=>?_;obtain⟨o,a,c,hd⟩:=d
   have q:=T _ _ g (h5 rfl) it;exact⟨t,xs,n,i,⟨o,K _ _ a hd,c,hd⟩,q.1,q.2,C _ _ f⟩
 |.dict r v l,p=>by refine CM p λes ep i k N V Q f=>?_;obtain⟨o,a,c,hd⟩:=k;have q:=kv r v es ep N V Q;have e:=R r N;exact⟨es,ep,i,⟨o,K _ _ a hd,c,Z e.2 hd⟩,e.1,q.1,Z e.2 q.2,C _ _ f⟩
theorem kf.step(S:Step X ad H h ad' H' h')(st:bS H')(N:¬e3 H ad I):kf κ H ad h I j->kf κ H' ad' h' I j:=
 kf.mv (λ_ _ o hd=>S.keep _ _ o N λ_=>k5 hd) (λ_ _ g F it=>⟨S.rs st g it,S.keep _ _ g it.1 λ_=>F⟩) (λ_ _ f=>f.step S st) (λr n=>⟨K6 n S.n,S.ext r n⟩) λr v es ep n V Q=>⟨KB V (S.e4 r n),λe s=>by have E:H.e4 r=v:=L2 (KB (S.e4 r n) (KQ e)) V;have a:(H.o r).isSome=true:=(S.fresh r s (st r s)).elim (λq=>q.1) λq=>absurd q.1 (Nat.not_le_of_lt n);exact aD (Q E a) λb g' R=>⟨b,(S.same r n a s (e.trans E.symm)).2.trans g',R⟩⟩
theorem kf.tU(z:ad.z D)(k:LL D h h')(N:D≠I)(l:¬e3 H ad D):kf κ H ad h I j->kf κ H ad h' I j:=
 kf.mv (λ_ _ o _=>k _ _ N.symm o) (λ_ _ g _ it=>⟨it,k _ _ (λq=>it.2 (Z q z)) g⟩) (λ_ _ f=>f.aL (dj z k)) (λ_ n=>⟨n,rfl⟩) λr v es ep n V Q=>⟨V,λe s=>(Q e s).elim λa w=>⟨a,k _ _ (λq=>l ⟨r,s,q⟩) w.1,w.2⟩⟩
theorem ou{a:Lb}{Q:KI->K2->Prop}{prog:L6}{w:MP}(hd:(a==NJ)=false)(m:gO s.heap a es ep)
  (q:Q (.ref s.heap.objs.size) {s with heap:=s.heap.push {cls:=.type "dict_keyiterator",data:=.fields #[.ref a,.int 0 0,.int es.size 0,.int ep 0]}}):KV (K5 prog w) A (Tq (.ref a)) Q E s:=by
 refine gc m λo H c h=>?_;have t:s.TypeIs (.ref a) "dict":=⟨o,H,c.1⟩;refine wpAny_pyIter_slot t Qe (My Qe t PySem.F.entry_dict_iter ?_ (PySem.F.args_dict_iter_1 _));unfold Builtin.«dict.__iter__»;refine KA ?_;unfold Tk;refine KA (Ru t ((KL (?_ :KV _ _ (PK a>>=_) _ _ s)):KV _ _ (pure (Mu a)) _ _ s));unfold PK;refine Z (if_neg (by exact Z hd LW)) (KA (KL (KA (Ow H h (KA (Qq H h (KA (MV (KL ⟨_,rfl,"dict_keyiterator",_,⟨_,KY _ rfl,rfl⟩,Mf.lookup,?_⟩)))))))));simpa[Ng] using q
theorem te{es:Array Mt}{e:Mt}{Q:Option KI->K2->Prop}{prog:L6}{w:MP}(h:s.heap.IsKeyIter I a i es.size ep)(m:gO s.heap a es ep)(x:es[i]? =U e)
  (q:∀h',h'.IsKeyIter I a (i+1) es.size ep->MC I s.heap h'->Q (U e.key) {s with heap:=h'}):KV (K5 prog w) A (Oc (.ref I)) Q E s:=by
 refine gc (id h) λo b c hd=>gc m λg d f D=>?_;unfold Oc;refine KA (PA (MB (name:=KD "__next__") h.typeIs Mf (My Mf h.typeIs OR (KA (KL (KA (KA ?_)))) (OL _))))
 first |refine KA (M4 h.typeIs (KL ?_)) |refine KA (ND h.typeIs (KL ?_))
 refine KA (To b hd ?_);dsimp only[(by decide:Oz "dict_keyiterator"=false),LX,if_false];refine((Z (if_neg ((LW:¬((Mu a==L4)=true)))) (KA (KL (KA (Ow d D ?_))))):KV _ _ (if(Mu a==L4)=true then _ else _) _ _ s);refine Z (if_neg (by simp)) (KA (KL (KA (Qq d D (Z (if_neg (by simp)) ?_)))));refine KL ?_;dsimp only
 (refine Z (if_neg ((Rp.mpr (Lw i):¬((i:Int)<0)))) ?_;(refine Z (Mn _) ?_;rw[x]))
 refine KA ?_
 first |refine KA (M4 h.typeIs (KL ?_)) |refine KA (ND h.typeIs (KL ?_))
 refine KA (Rv h.typeIs ((KA (Pg b hd (by simp) ?_)):KV _ _ (setField (.ref I) 1 (Ng ((i:Int)+1))>>=_) _ _ s));have H:(s.heap.update I (Obj.mapFields (·.setIfInBounds 1 (Ng ((i:Int)+1))))).IsKeyIter I a (i+1) es.size ep:=
  ⟨_,LY _ b (Obj.isFreed_of_fields (Obj.data_mapFields hd _)),(Obj.cls_mapFields ..).trans c,by refine Z (Obj.data_mapFields hd _) ?_;simp[Ng]⟩;exact KA (LJ (KA (Rv (s:={s with heap:=s.heap.update I (Obj.mapFields (·.setIfInBounds 1 (Ng ((i:Int)+1))))}) H.typeIs ((KL (KL ⟨_,rfl,KL (q _ H (Mj ..))⟩)):KV _ _ (pure e.key) _ _ _))))
theorem wZ{es:Array Mt}{Q:Option KI->K2->Prop}{prog:L6}{w:MP}(c:A.handled=KF)(h:s.heap.IsKeyIter I a i es.size ep)(M:gO s.heap a es ep)(x:es.size<=i)
  (q:∀h',LL I s.heap h'->Q KF {s with heap:=h'}):KV (K5 prog w) A (Oc (.ref I)) Q E s:=by
 refine gc (id h) λo e C hd=>gc M λf H D d=>?_;unfold Oc;refine KA (PA (MB (name:=KD "__next__") h.typeIs Mf (My Mf h.typeIs OR (KA (KL (KA (KA ?_)))) (OL _))))
 first |refine KA (M4 h.typeIs (KL ?_)) |refine KA (ND h.typeIs (KL ?_))
 refine KA (To e hd ?_);dsimp only[(by decide:Oz "dict_keyiterator"=false),LX,if_false];refine((Z (if_neg ((LW:¬((Mu a==L4)=true)))) (KA (KL (KA (Ow H d ?_))))):KV _ _ (if(Mu a==L4)=true then _ else _) _ _ s);refine Z (if_neg (by simp)) (KA (KL (KA (Qq H d (Z (if_neg (by simp)) ?_)))));refine KL ?_;dsimp only
 (refine Z (if_neg ((Rp.mpr (Lw i):¬((i:Int)<0)))) ?_;(refine Z (Mn _) ?_;rw[Array.getElem?_eq_none x]))
 refine KA ?_
 first |refine KA (M4 h.typeIs (KL ?_)) |refine KA (ND h.typeIs (KL ?_))
 refine((KA (Pg e hd (by simp) ?_)):KV _ _ (setField (.ref I) 0 .none>>=_) _ _ s);refine((KA ?_):KV _ _ (Tr (.type "StopIteration") []>>=_) _ _ _);simp only[Tr,newTuple];refine KA (MV (KA (m:=Ph _ _) (RL (a:=L4) (by first |rfl |(refine Z Ph ?_;rfl)) ?_)) (by size_fits));refine MV ((KA (TH ?_)):KV _ _ (handled>>=_) _ _ _) (by size_fits)
 first |exact iR ((c:A.in1.handled=KF)) rfl |refine Z c ?_
 refine KA (KL (wpAny_throw ?_));refine KA (OJ (T:="StopIteration") (b:=true) ⟨_,KY _ rfl,rfl⟩ Tt ?_);exact KL (q _ (((Mj ..).extBut.push _).push _))
end
section
set_option backward.match.sparseCases true
variable {A:Around} {h:Heap}
theorem qZ(R:ik κ H ad h a (.dI es)):∃d ep,gO h a d ep/\aF κ H ad h (ae (es.map (·.1))) (d.toList.map (·.key)):=by
 obtain⟨k,⟨o,d,ep,g,x,hd,K,P,n⟩,f⟩:=R;refine⟨d,ep,⟨o,g,x,hd⟩,?_⟩;clear K n hd x g;generalize d.toList=l at P;revert l;induction f with
 |nil=>intro l P;cases P;simp[ae,aF]
 |@cons p q es k Q _ i=>
  intro l P;cases P with
  |cons b e c=>obtain⟨t,T⟩:=Pk b;dsimp only[Ln,ae,aF,aJ];exact⟨_,_,rfl,⟨t,by simp only[T,Q.1]⟩,i _ c⟩
theorem wx(R:ik κ H ad h a (.dP es)):∃d ep,gO h a d ep/\aF κ H ad h (es.map λe=>V.aA (ae e.1)) (d.toList.map (·.key)):=by
 obtain⟨k,⟨o,d,ep,g,X,hd,K,P,N⟩,f⟩:=R;refine⟨d,ep,⟨o,g,X,hd⟩,Z K ?_⟩;clear K N hd X g;induction f with
 |nil=>simp[aF]
 |@cons p q es k Q _ i=>refine cR (P q KJ) λxs n g z j=>?_;simp only[Ln,aF,entryOfKey,aJ];exact⟨_,_,rfl,⟨_,xs,n,rfl,Q.2.1,g,z,Z Q.1 (aF.ints.mpr j)⟩,i λx X=>P x (KP _ X)⟩
theorem v0{J:Lb}(R:bf κ H ad s)(h:s.heap.objs.size<=J):¬e3 H ad J:=by intro l;refine cV (R.cZ l) λo e=>?_;rw[aW _ h] at e;exact al e
theorem ww(K:fK κ G)(R:bf κ H ad s){j:It}(h:It.start H v=U j)(X:aJ κ H ad s.heap v x){Q:KI->K2->Prop}
  (q:∀I h',s.heap.get? I=KF->(∃o,h'.get? I=U o)->(∀b o,s.heap.get? b=U o->h'.get? b=U o)->kf κ H (ad.a9 I) h' I j->Q (.ref I) {s with heap:=h'}):KV (K5 κ.prog κ.w) A (Tq x) Q E s:=by
 have fr:=aW s.heap (KX s.heap.objs.size);have k:∀o:K4,∀b B,s.heap.get? b=U B->(s.heap.push o).get? b=U B:=λo b B e=>KT o e;have d:∀{a:Lb} {o:K4},s.heap.get? a=U o->jD H ad a->jD H (ad.a9 s.heap.objs.size) a:=λg i=>⟨i.1,λq=>q.elim (λq=>by replace g:=fr▸q▸g;exact al g) i.2⟩;cases v with
 |fl xs=>cases h;obtain⟨a,ys,n,rfl,m,g,z,f⟩:=X;exact SA ⟨_,g,rfl,n,rfl⟩ (q _ _ fr ⟨_,KY _ rfl⟩ (k _) (.inr (.inl ⟨a,ys,n,0,⟨_,KY _ rfl,rfl,rfl⟩,d g m,k _ _ _ g,f.aL (cy (k _) fr)⟩)))
 |aA xs=>cases h;obtain⟨a,ys,n,rfl,m,g,z,f⟩:=X;exact PF ⟨_,g,rfl,n,rfl⟩ (q _ _ fr ⟨_,KY _ rfl⟩ (k _) (.inl ⟨a,ys,n,0,⟨_,KY _ rfl,rfl,rfl⟩,d g m,k _ _ _ g,f.aL (cy (k _) fr)⟩))
 |yB n=>
  (replace h:=KC h;subst h)
  obtain⟨a,t,u,v,rfl,m,g,w,y⟩:=X;have hz:Pr 0 n 1=n:=by unfold Pr;simp;lia
  have C:(aN:Int)<2^63-1:=by decide
  refine wpAny_pyIter_range g (by unfold SY;refine Z hz ?_;simp[SZ];lia) (q _ _ fr ⟨_,KY _ rfl⟩ (k _) (.inr (.inr ⟨0,?_,?_⟩)))
  ·refine Z (Z (KE _) (Z LN rfl):((LP n.toNat).map λ(i:Nat)=>V.int i).length=n.toNat) (Z hz (?_ :_=U _))
   exact Z (Rc w:((n.toNat:Nat):Int)=n) (KY s.heap (o:={cls:=.type "range_iterator",data:=.fields #[Ng 0,Ng n,Ng 1]}) rfl)
  ·simp
 |ref r=>
  obtain⟨rfl,p⟩:=X;obtain⟨o,l,h⟩:=bG h;induction o with
  |list xs=>
   (replace h:=KC h;subst h)
   obtain⟨vs,n,g,z,f⟩:=R.obj _ _ l;exact SA ⟨_,g,rfl,n,rfl⟩ (q _ _ fr ⟨_,KY _ rfl⟩ (k _) ⟨⟨_,KY _ rfl,rfl,rfl⟩,p⟩)
  |dI es=>cases h;obtain⟨D,ep,N,f⟩:=qZ (R.obj _ _ l);refine ou (e9 K R (bx l)) N (q _ _ fr ⟨_,KY _ rfl⟩ (k _) ⟨D,ep,0,⟨_,KY _ rfl,rfl,rfl⟩,p,KX _,λ_ _=>?_,f.aL (cy (k _) fr)⟩);obtain⟨o,g,c⟩:=N;exact⟨o,k _ _ _ g,c⟩
  |dP es=>cases h;obtain⟨D,ep,N,f⟩:=wx (R.obj _ _ l);refine ou (e9 K R (bx l)) N (q _ _ fr ⟨_,KY _ rfl⟩ (k _) ⟨D,ep,0,⟨_,KY _ rfl,rfl,rfl⟩,p,KX _,λ_ _=>?_,f.aL (cy (k _) fr)⟩);obtain⟨o,g,c⟩:=N;exact⟨o,k _ _ _ g,c⟩
  |_=>exact al h
 |_=>exact al h
theorem jM{a:Type}{l:List a}{v:a}{r:List a}(h:l.drop i=v::r):l[i]? =U v/\l.drop (i+1)=r:=by
 constructor
 ·have:(l.drop i)[0]? =U v:=by refine Z h ?_;rfl
  simpa using this
 ·refine Z (Z Sb rfl:l.drop (i+1)=(l.drop i).drop 1) (Z h ?_);rfl
theorem m9{a:Type}{l:List a}(h:l.drop i=[]):l.length<=i:=by simpa using h
theorem J0(x:h.IsTupleIter a t i):∃o,h.get? a=U o:=let ⟨o,e,_⟩:=x;⟨o,e⟩
theorem JM(x:h.IsListIter a t i):∃o,h.get? a=U o:=let ⟨o,e,_⟩:=x;⟨o,e⟩
theorem Kt(x:h.IsKeyIter a t i n m):∃o,h.get? a=U o:=let ⟨o,e,_⟩:=x;⟨o,e⟩
theorem zk(c:A.handled=KF)(it:s.heap.IsTupleIter I t i)(m:jD H ad t)(g:s.heap.get? t=U {cls:=.type "tuple",data:=.seq xs n})(f:aF κ H ad s.heap l (xs.toList.drop i))(z:ad.z I){o:Option (V×It)}(h:It.next H (.bp l)=U o){Q:Option KI->K2->Prop}
  (a:o=KF->∀h',LL I s.heap h'->Q KF {s with heap:=h'})
  (b:∀v j x h' t,o=U (v,j)->LL I s.heap h'->(∃B,h'.get? I=U B)->aJ κ H ad h' v x->kf κ H ad h' I j->Q (U x) {s with heap:=h',toks:=t}):KV (K5 κ.prog κ.w) A (Oc (.ref I)) Q E s:=by
 cases l with
 |nil=>
  (replace h:=KC h;clear b;subst h)
  exact wpAny_pyNext_tuple_end c it ⟨_,g,rfl,n,rfl⟩ (by simpa using(m9 f)) (a rfl)
 |cons v l=>clear a;obtain rfl:=KC h;obtain⟨x,r,e,R,f⟩:=f;exact ay (jM e) λd p=>wpAny_pyNext_tuple_item it ⟨_,g,rfl,n,rfl⟩ (by simpa using d) λh' T k=>b _ _ _ _ _ rfl k.extBut (J0 T) (R.aL (dj z k.extBut)) (.inl ⟨t,xs,n,i+1,T,m,k.extBut _ _ (λq=>m.2 (Z q z)) g,Z p (f.aL (dj z k.extBut))⟩)
theorem Av(c:A.handled=KF)(it:s.heap.IsListIter I t i)(m:jD H ad t)(g:s.heap.get? t=U {cls:=.type "list",data:=.seq xs n})(f:aF κ H ad s.heap l (xs.toList.drop i))(z:ad.z I){o:Option (V×It)}(h:It.next H (.bp l)=U o){Q:Option KI->K2->Prop}
  (a:o=KF->∀h',LL I s.heap h'->Q KF {s with heap:=h'})
  (b:∀v j x h' t,o=U (v,j)->LL I s.heap h'->(∃B,h'.get? I=U B)->aJ κ H ad h' v x->kf κ H ad h' I j->Q (U x) {s with heap:=h',toks:=t}):KV (K5 κ.prog κ.w) A (Oc (.ref I)) Q E s:=by
 cases l with
 |nil=>
  (replace h:=KC h;clear b;subst h)
  exact Rs c it ⟨_,g,rfl,n,rfl⟩ (by simpa using(m9 f)) (a rfl)
 |cons v l=>clear a;obtain rfl:=KC h;obtain⟨x,r,e,R,f⟩:=f;exact ay (jM e) λd p=>Re it ⟨_,g,rfl,n,rfl⟩ (by simpa using d) λh' T k=>b _ _ _ _ _ rfl k.extBut (JM T) (R.aL (dj z k.extBut)) (.inr (.inl ⟨t,xs,n,i+1,T,m,k.extBut _ _ (λq=>m.2 (Z q z)) g,Z p (f.aL (dj z k.extBut))⟩))
theorem Am(b:A.handled=KF){x:Nat}{l:List V}(it:IsRangeIter s.heap I x l.length 1)(e:l=(LP l.length).map λ(k:Nat)=>V.int ((x+k:Nat):Int)){o:Option (V×It)}(h:It.next H (.bp l)=U o){Q:Option KI->K2->Prop}
  (q:o=KF->∀h',LL I s.heap h'->Q KF {s with heap:=h'})
  (a:∀v j x h' t,o=U (v,j)->LL I s.heap h'->(∃B,h'.get? I=U B)->aJ κ H ad h' v x->kf κ H ad h' I j->Q (U x) {s with heap:=h',toks:=t}):KV (K5 κ.prog κ.w) A (Oc (.ref I)) Q E s:=by
 cases l with
 |nil=>(replace h:=KC h;clear a;subst h);exact wpAny_pyNext_range_end b it (by simp) (q rfl)
 |cons v l=>
  clear q;obtain rfl:=KC h;simp only[Lr,List.range_succ_eq_map,Ln,Qx] at e;injection e with c d;refine wpAny_pyNext_range_item it (by simp) λh' i k=>a _ _ _ _ _ rfl k.extBut ⟨_,i⟩ (Z c ⟨s.toks,rfl⟩) (.inr (.inr ⟨x+1,?_,?_⟩));·simpa using i
  ·(refine Z d ?_;(refine Z (KE _) ?_;rw[LN]))
   exact Mm λk _=>congrArg (λn:Nat=>V.int (n:Int)) ((L2 (bM (gF _ _) 0x111387181137 rfl) (bM (gF _ _) 0x181137111387 rfl)):x+(k+1)=x+1+k)
theorem mF(p:A.handled=KF)(R:bf κ H ad s)(a:ad.z I){o:Option (V×It)}(h:It.next H j=U o)(it:kf κ H ad s.heap I j){Q:Option KI->K2->Prop}
  (b:o=KF->∀h',LL I s.heap h'->Q KF {s with heap:=h'})
  (d:∀v L x h' t,o=U (v,L)->LL I s.heap h'->(∃N,h'.get? I=U N)->aJ κ H ad h' v x->kf κ H ad h' I L->Q (U x) {s with heap:=h',toks:=t}):KV (K5 κ.prog κ.w) A (Oc (.ref I)) Q E s:=by
 induction j with
 |cZ r i=>
  refine ay it λit F=>?_;obtain⟨xs,X,h⟩:=fz h;obtain⟨N,G,X⟩:=bG X;replace G:=(vP X)▸G;obtain⟨vs,n,g,z,f⟩:=R.obj _ _ G;induction m:xs[i]?with
  |some v=>replace h:=m▸h;refine aD (f.get m) λx X J=>Re it ⟨_,g,rfl,n,rfl⟩ (by simpa using X) λh' T k=>d _ _ _ _ _ h.symm k.extBut (JM T) (J.aL (dj a k.extBut)) ⟨T,F⟩
  |none=>replace h:=m▸h;refine Rs p it ⟨_,g,rfl,n,rfl⟩ ?_ (b h.symm);simp only[N',<-Le,<-f.length];exact Qj.mp m
 |bp l=>exact KS it (λu=>tP u λt xs n i it M g f=>zk p it M g f a h b d) λy=>KS y (λB=>tP B λt xs n i it M g f=>Av p it M g f a h b d) λC=>aD C λx it e=>Am p it e h b d
 |dict r v l=>
  obtain⟨es,ep,i,it,F,m,P,f⟩:=it;replace h:(if H.e4 r=v/\(H.o r).isSome=true then(match l with |[]=>U KF |w::S=>U (U (w,It.dict r v S))) else KF)=U o:=h;by_cases c:H.e4 r=v/\(H.o r).isSome=true
  ·replace h:=(if_pos c)▸h
   have W:=P c.1 c.2;induction l using Lx with
   |nil=>
    (replace h:=KC h;clear d;subst h)
    exact wZ p it W (by simpa using(m9 (Q1.mp f))) (b rfl)
   |cons v' S=>
    clear b;obtain rfl:=KC h;obtain⟨x,rr,e,J,f⟩:=f;induction hd:es.toList.drop i using Lx with
    |nil=>replace e:=hd▸e;cases e
    |cons ac aa=>
     replace e:=hd▸e;injection e with K D;subst K;refine ay (jM hd) λd1 d2=>te it W (by simpa using d1) λh' T k=>d _ _ _ _ s.toks rfl k.extBut (Kt T) (J.aL (dj a k.extBut)) ⟨es,ep,i+1,T,F,m,λK D=>aD (P K D) λo g c'=>⟨o,k.extBut _ _ (λq=>(R.zf I a:¬e3 H ad I) ⟨r,D,q⟩) g,c'⟩,?_⟩
     ·refine Z d2 ?_
      simp only[<-D] at f;exact f.aL (dj a k.extBut)
  ·replace h:=(if_neg c)▸h;exact al h
theorem pV{cY:Prop}{go:V->It->Prop}(h:ob o cY go):(o=U KF/\cY)\/∃v j,o=U (U (v,j))/\go v j:=by
 induction o with
 |none=>exact h.elim
 |some p=>induction p with
  |none=>exact .inl ⟨rfl,h⟩
  |some p=>exact .inr ⟨p.1,p.2,rfl,h⟩
inductive GN(κ:dz)(nm:Nm)(gl:Gl)(env:Pl)(ad:Ad)(H:Hp)(h:Heap)(W:aV->Hp->Prop)(s:K2):Prop
 |mk (a:Ad) (b:Hp) (c:aV) (q:W c b) (V:h8 κ nm gl env c b a s.heap) (R:bf κ b a s) (S:Step (FX env) ad H h a b s.heap)
theorem qQ{c:Ex}(X:ST κ G C d c)(Z:DS κ G C d b):SS κ G C d (.while c b):=by
 intro e' nm gl hc A E env J Q H ad s P V R W;refine cV W λn W=>ay (bt hc) λh1 h2=>wpAny_While (codeAny_whileLoop (λm S=>GN κ nm gl env ad H s.heap (λJ H=>qf (λJ Q h=>c.qX G C J Q h) (λJ Q h=>St.bh G C b J Q h) m J Q H) S) (λm S p=>?_) n ⟨ad,H,J,W,V,R,Step.refl⟩);obtain⟨I,K,a,q,k,l,L⟩:=p;induction m using MG with
 |zero=>exact q.elim
 |succ m=>
  refine K0 (X _ nm gl h1 A _ env a _ K I S P k.toEnvR l q) (λt M p=>?_) λ_ _ y=>y;obtain⟨D,o,q,r,u⟩:=p;have w:=k.step u r.au;have e:=L.trans u.fx l.au;induction t with
  |true=>
   refine K0 (Z _ nm gl h2 A _ env a _ o D M P w r q) (λf T p=>?_) λ_ _ y=>y;obtain⟨g,z,i,fl,q,fr,B,F,N⟩:=p;have j:=e.trans N r.au;induction fl with
   |next=>
    obtain rfl:f=.next:=fr
    exact⟨m,LU m,g,z,i,q,B,F,j⟩
   |ret v=>obtain⟨x,rfl,rx⟩:=fr;exact⟨g,z,i,.ret v,q,⟨x,rfl,rx⟩,B,F,j⟩
  |false=>exact Qp ⟨D,o,a,.next,A6 q,rfl,w,r,e⟩
theorem k'{R:Result->K2->Prop}{t it B o env}{prog:L6}{w:MP}(J:Nat->K2->Prop)
  (turn:∀n s,J n s->KV (K5 prog w) A (Oc it) (λr S=>match r with
   |none=>KV (K5 prog w) A (execs o env) (λf a=>R (.ok f) a) (Rg (K5 prog w) A env λe s'=>R (.error e) s') S
   |some v=>KV (K5 prog w) A (Td t it v) (λ_ S=>KV (K5 prog w) A (QD t env v) (λ_ c=>KV (K5 prog w) A (execs B env) (λf a=>match f with
     |.next |.cont=>∃m,m<n/\J m a
     |.brk=>R (.ok .next) a
     |.ret v=>R (.ok (.ret v)) a) (Rg (K5 prog w) A env λe s'=>R (.error e) s') c) (Rg (K5 prog w) A env λe s'=>R (.error e) s') S) (Rg (K5 prog w) A env λe s'=>R (.error e) s') S) (Rg (K5 prog w) A env λe s'=>R (.error e) s') s)
  (n:Nat)(h:J n s):OY (K5 prog w) A (.forLoop t it B o env) R s:=by
 refine codeAny_loop' rfl J (λn s i=>((wpAny_noted ?_):KV _ _ ((forTurn t it B o env).onRaise (λx=>do noteFrame x env;theTreesLotGoes x)) _ _ s)) n h;simp only[forTurn];refine KA (ML (KA (OB (K0 (turn n s i) (λr S H=>?_) λ_ _ h'=>ML h'))));induction r with
 |none=>exact KL (.inr ⟨rfl,codeAny_block H⟩)
 |some v=>
  refine KA (K0 H (λ_ S H=>KA (K0 H (λ_ c d=>KA (K0 d (λf a b=>?_) λ_ _ h'=>h')) λ_ _ h'=>h')) λ_ _ h'=>h');induction f with
  |next=>exact KL (.inl ⟨rfl,b⟩)
  |cont=>exact KL (.inl ⟨rfl,b⟩)
  |brk=>exact KL b
  |ret v=>exact KL b
theorem kf.obj(it:kf κ H ad h I j):∃o vs T,h.get? I=U o/\o.cls=.type T/\o.data=.fields vs/\(T="list_iterator"\/T="tuple_iterator"\/T="range_iterator"\/T="dict_keyiterator"):=by
 induction j with
 |cZ r i=>exact ay it λb _=>gc b λo g c d=>⟨o,_,_,g,c,d,.inl rfl⟩
 |bp l=>
  rcases it with⟨t,xs,n,i,⟨o,g,c,d⟩,_⟩ |⟨t,xs,n,i,⟨o,g,c,d⟩,_⟩ |⟨x,g,e⟩
  ·exact⟨o,_,_,g,c,d,.inr (.inl rfl)⟩
  ·exact⟨o,_,_,g,c,d,.inl rfl⟩
  ·exact⟨_,_,_,g,rfl,rfl,.inr (.inr (.inl rfl))⟩
 |dict r v l=>exact sp it λes ep i B _=>gc B λo g c d=>⟨o,_,_,g,c,d,.inr (.inr (.inr rfl))⟩
set_option tactic.hygienic true in
theorem AJ{t:Tg}(it:kf κ H ad s.heap I j){Q:Unit->K2->Prop}(q:Q () s):KV M A (Td (t.py nm y) (.ref I) x) Q E s:=by
 refine rX it.obj λo vs T g c d h=>?_
 have key:∀a:Lb,KV M A (do
   let o<-load I
   match o.cls,o.data with
   |.type n,.fields vs=>
    if["enumerate","zip","dict_itemiterator","dict_reverseitemiterator","odict_iterator","itertools.zip_longest","itertools.pairwise"].contains n&&vs[0]? ==U (Ng a) then
     rule "for.unpacks-the-owned-tuple"
     updateField I 0 .none
   |_,_=>pure ()) Q E s:=by
  intro a
  refine KA (wpAny_load g (Z c (Z d ?_)))
  clear c
  rcases h with rfl |rfl |rfl |rfl<;>exact KL q
 cases t with
 |aA=>induction x<;>first |exact KL q |exact key _
 |_=>exact KL q
theorem Dk(m:Ex)(nm:Nm)(e:KN)(env:Pl)(v:KI):SC (m.py nm e) env v=pure v:=by
 cases m with
 |aE c=>cases c with
  |int i=>refine(?_ :SC (if i<0 then _ else _) env v=_);split<;>rfl
  |_=>rfl
 |bi b=>induction b<;>rfl
 |_=>rfl
inductive GL(κ:dz)(nm:Nm)(gl:Gl)(env:Pl)(ad:Ad)(H:Hp)(h:Heap)(I:Lb)(W:It->aV->Hp->Prop)(s:K2):Prop
 |mk (a:Ad) (b:Hp) (c:aV) (j:It) (q:W j c b) (V:h8 κ nm gl env c b a s.heap) (R:bf κ b a s) (it:kf κ b a s.heap I j) (S:Step (FX env) ad H h a b s.heap)
theorem vI(KO:fK κ G)(it:SG κ G C d t)(ie:SE κ G C d e)(ib:DS κ G C d b):SS κ G C d (.for t e b):=by
 intro e' nm gl hc A E env J Q H ad s hA V R hw;refine m7 hc λc1 c2 c3=>wpAny_For (K0 (ie _ nm gl c2 A E env J _ H ad s hA V.toEnvR R hw) (λxv M p=>?_) λ_ _ y=>y) ?_
 ·obtain⟨a,i,v,q,rx,g,N⟩:=p
  obtain⟨j,hj,n,q⟩:=aQ q;refine ww KO g hj rx λI h' hI bs kp ij=>?_;have c:bf κ i (a.a9 I) {M with heap:=h'}:=g.a9 kp rfl rfl hI bs;have u:h8 κ nm gl env J i (a.a9 I) h':=(V.step N g.au).a9 kp hI;have nz:¬a.z I:=λz=>by obtain⟨o,e⟩:=g.k7 I z;rw[hI] at e;exact al e
  have bD:¬e3 i a I:=λl=>by obtain⟨o,e⟩:=g.cZ l;rw[hI] at e;exact al e
  have S:Step (FX env) (a.a9 I) i M.heap (a.a9 I) i h':=Step.keeps kp λr hr=>g.cZ ⟨r,hr,rfl⟩;have P:=ij;refine k' (λm F=>GL κ nm gl env (a.a9 I) i M.heap I (λj J H=>dp (λv J Q h=>Tg.wp G C t v J Q h) (λJ Q h=>St.bh G C b J Q h) m j J Q H) F) (λm F p=>?_) n ⟨_,i,J,j,q,u,c,P,S⟩;clear P S c u q ij hj;obtain⟨D,ag,T,j,q,u,c,ij,S⟩:=p;have ea:=S.mK;have zI:D.z I:=Z ea (.inl rfl);induction m using MG with
  |zero=>exact q.elim
  |succ m=>
   refine KS (pV q) (λa2=>ay a2 λhn q=>?_) λa3=>eH a3 λv j' hn q=>?_
   ·refine mF hA.handled c zI hn ij (λ_ an k=>Qp ?_) (λ_ _ _ _ _ e=>al e)
    rw[ea] at u c;have w:=c.iw nz k F.toks;exact⟨⟨D.f,a.z⟩,ag,T,.next,q,rfl,u.iw k,w,N.fx.trans ((S.hY hI k (Z ea (c.pM (.inl rfl)))).HK) g.au⟩
   ·refine mF hA.handled c zI hn ij (λe=>al e.symm) (λv' bL xv an tk e k ex rv bd=>?_)
    (cases KC e)
    have w:=c.tU zI k ex tk;refine AJ (s:={F with heap:=an,toks:=tk}) bd (K0 (it _ nm gl c1 A _ env T _ ag D _ v xv hA (u.tU zI k) w rv q) (λ_ bi p=>?_) λ_ _ y=>y);obtain⟨W,bk,a1,q,bn,K,X⟩:=p;refine K0 (ib _ nm gl c3 A _ env a1 _ bk W bi hA bn K q) (λf bw p=>?_) λ_ _ y=>y;obtain⟨aa,ap,ac,fl,q,fr,af,L,as⟩:=p;have z4:W.z I:=Z X.z zI;have B:=((S.hY hI k (c.pM zI)).trans X w.au).trans as K.au;induction fl with
    |next=>
     obtain rfl:f=.next:=fr
     exact⟨m,LU m,aa,ap,ac,j',q,af,L,((bd.step X K.au (w.zf I zI)).step as L.au (K.zf I z4)),B⟩
    |ret v=>obtain⟨x,rfl,rx⟩:=fr;rw[B.mK] at af L rx;exact⟨⟨aa.f,a.z⟩,ap,ac,.ret v,q,⟨x,rfl,rx.aL fe⟩,af.iw (Heap.ExtBut.Gh),L.wy,N.fx.trans B.HK g.au⟩
 ·intro x
  exact Dk _ _ _ env x
end
variable {L:Addr}
section
variable {A:Around} {h:Heap}
noncomputable def oP(env:Pl):List (KR×Mc)->List (KR×Lb)->List (KR×Lb)
 |[],cs=>cs
 |(n,k)::r,cs=>if(k==.free)=true then match env.cells.lookup n with
   |some c=>oP env r ((n,c)::cs)
   |none=>oP env r cs
  else oP env r cs
theorem kJ{n:KR}{k:Mc}{r:List (KR×Mc)}:oP env ((n,k)::r) cs=if(k==.free)=true then match env.cells.lookup n with |some c=>oP env r ((n,c)::cs) |none=>oP env r cs else oP env r cs:=rfl
set_option tactic.hygienic true in
theorem BQ{l:List (KR×Mc)}(h:∀p∈l,p.2=.free->(env.cells.lookup p.1).isSome=true):∀cs:List (KR×Lb),
  (forIn l cs (λx cs=>match x with |(name,K)=>if(K==.free)=true then do let c<-cellOf env name;pure (L8 ((name,c)::cs)) else pure (L8 cs)):SV (List (KR×Lb)))=pure (oP env l cs):=by
 induction l with
 |nil=>intro cs;rfl
 |cons p l i=>
  intro cs
  obtain⟨n,k⟩:=p
  (rw[M2];refine Z kJ ?_)
  dsimp only
  have i:=i λp H=>h p (KP _ H)
  split
  ·rename_i c
   refine cV (LK.mp (h _ KJ (eq_of_beq c))) λa A=>?_
   simp only[cellOf,A,pure_bind]
   exact i _
  ·exact Z (pure_bind _ _) (i _)
theorem vg{s:O7}(h:∀p∈s.names,p.2=.free->(env.cells.lookup p.1).isSome=true):closureFor s env=pure (oP env s.names []):=by unfold closureFor;simp only;refine Z ((BQ h []):(forIn s.names ([]:List (KR×Lb)) λx cs=>if(x.snd==MX)=true then do let c<-cellOf env x.fst;pure (L8 ((x.fst,c)::cs)) else pure (L8 cs):SV (List (KR×Lb)))=pure (oP env s.names [])) ?_;rfl
set_option tactic.hygienic true in
theorem xi:∀{cs:List (KR×Lb)},(∀p∈cs,env.cells.lookup p.1=U p.2)->∀p∈oP env l cs,env.cells.lookup p.1=U p.2:=by
 induction l with
 |nil=>intro cs h;exact h
 |cons q l i=>
  intro cs h
  obtain⟨n,k⟩:=q
  simp only[kJ]
  split
  ·split
   ·rename_i c C
    refine i λp H=>?_
    rcases KM.mp H with rfl |H
    ·exact C
    ·exact h p H
   ·exact i h
  ·exact i h
theorem C8:∀{cs:List (KR×Lb)},∀p∈cs,p∈oP env l cs:=by
 induction l with
 |nil=>intro cs p h;exact h
 |cons q l i=>
  intro cs p h;obtain⟨n,k⟩:=q;simp only[kJ];split
  ·split
   ·exact i _ (KP _ h)
   ·exact i _ h
  ·exact i _ h
theorem C'{l:List (KR×Mc)}{c:Lb}(H:env.cells.lookup y=U c):∀{cs:List (KR×Lb)},(y,MX)∈l->(y,c)∈oP env l cs:=by
 induction l with
 |nil=>intro cs h;cases h
 |cons q l i=>
  intro cs h;obtain⟨n,k⟩:=q;simp only[kJ];refine KS (KM.mp h) (λe=>?_) λh=>?_
  ·clear h;obtain⟨rfl,rfl⟩:=Lz e
   exact Z (if_pos (show(MX==MX)=true from rfl)) (Z H (C8 _ KJ))
  ·split
   ·split
    ·exact i h
    ·exact i h
   ·exact i h
theorem sW{K V:Type}[BEq K][LawfulBEq K]{l:List (K×V)}{y:K}{c:V}(h:(y,c)∈l):∃c',l.lookup y=U c':=by
 induction l with
 |nil=>cases h
 |cons q l i=>
  obtain⟨a,b⟩:=q;simp only[LR];induction H:y==a with
  |true=>exact⟨b,rfl⟩
  |false=>
   refine KS (KM.mp h) (λe=>?_) λh=>i h
   (injection e with e;clear h;subst e);simp at H
theorem cz{K V:Type}[BEq K][LawfulBEq K]{l:List (K×V)}{y:K}{c:V}(h:l.lookup y=U c):(y,c)∈l:=by
 induction l with
 |nil=>exact al h
 |cons q l i=>
  obtain⟨a,b⟩:=q;simp only[LR] at h;induction H:y==a with
  |true=>rw[H] at h;(replace h:=KC h;clear i;subst h);exact Z (eq_of_beq H) KJ
  |false=>rw[H] at h;exact KP _ (i h)
theorem kg{K V:Type}[BEq K][LawfulBEq K]{l:List (K×V)}(H:(l.map (·.1)).Nodup){y:K}{c:V}(h:(y,c)∈l):l.lookup y=U c:=by
 induction l with
 |nil=>cases h
 |cons q l i=>
  obtain⟨a,b⟩:=q;simp only[Ln,K9] at H;simp only[LR];refine KS (KM.mp h) (λe=>?_) λh=>?_;·clear H h;obtain⟨rfl,rfl⟩:=Lz e;simp
  ·have:y≠a:=λe=>H.1 (Lo.mpr ⟨(y,c),h,e⟩)
   exact Z (show(y==a)=false by simpa using this) (i H.2 h)
theorem vz{l:List (KR×Mc)}{c:Lb}(C:env.cells.lookup y=U c)(h:(y,MX)∈l):(oP env l []).lookup y=U c:=by
 refine cV (sW (C' (cs:=[]) C h)) λc' H=>?_;have:=xi (env:=env) (l:=l) (cs:=[]) (λ_ h=>nomatch h) _ (cz H);replace this:=C▸this
 (replace this:=KC this;subst this)
 exact H
noncomputable def zt(env:Pl)(n:KR)(k:Mc):Mc:=if(k==.free&&env.scope.kind==.function&&env.kindOf n==U .cell)=true then .cell else k
theorem lT{g:KR->Mc->Mc}:∀l:List (KR×Mc),(l.map λp=>(p.1,g p.1 p.2)).lookup y=(l.lookup y).map (g y)
 |[]=>rfl
 |(n,k)::l=>by
  simp only[Ln,LR,LR];induction h:y==n with
  |true=>refine Z (eq_of_beq h) ?_;rfl
  |false=>exact lT l
theorem eA{s:O7}:(Rf s env).names.lookup y=(s.names.lookup y).map (zt env y):=by simp only[<-lT];refine(?_ :(s.names.map _).lookup y=_);congr 1;refine Mm λp _=>?_;obtain⟨n,k⟩:=p;dsimp only[zt];split<;>rfl
theorem qF{n:KR}{v j:Nat}{T:Nm}(h:S4 y ((n,v)::T)=U j):(y=n/\v=j)\/T.lookup y=U j:=by
 simp only[LR] at h;induction H:y==n with
 |true=>replace h:=H▸h;exact .inl ⟨eq_of_beq H,KC h⟩
 |false=>replace h:=H▸h;exact .inr h
theorem r'{j:Nat}:∀{l:List (KR×Mc)},(b0 nm x i l).lookup y=U j->(y=x/\j=i)\/(y≠x/\(y,MX)∈l/\nm.lookup y=U j):=by
 intro l;induction l with
 |nil=>intro h;exact al h
 |cons p r I=>
  obtain⟨n,k⟩:=p;intro h;have up:((y=x/\j=i)\/(y≠x/\(y,MX)∈r/\nm.lookup y=U j))->((y=x/\j=i)\/(y≠x/\(y,MX)∈(n,k)::r/\nm.lookup y=U j)):=λh=>h.imp id λh=>⟨h.1,KP _ h.2.1,h.2.2⟩;have h:S4 y (if(n==x)=true then(n,i)::b0 nm x i r else _)=U j:=h;by_cases c:(n==x)=true
  ·replace h:=(if_pos c)▸h
   exact(qF h).elim (λe=>.inl ⟨e.1.trans (eq_of_beq c),e.2.symm⟩) λh=>up (I h)
  ·rw[if_neg c] at h
   induction k with
   |free=>
    induction H:nm.lookup n with
    |none=>replace h:=H▸h;exact up (I h)
    |some J=>rw[H] at h;exact(qF h).elim (λe=>.inr ⟨λz=>c (beq_iff_eq.mpr (e.1.symm.trans z)),Z e.1 KJ,e.1▸hR e.2 H⟩) λh=>up (I h)
   |_=>exact up (I h)
structure i6(s:O7)(x:KR)(i:Nat)(nm:Nm)(gl:Gl):Prop where
 kind:s.kind=.function
 hL:(s.names.map (·.1)).Nodup
 hx:s.names.lookup x=U .local
 GD:∀p∈nm,p.2≠i
 all:∀p∈s.names,p.2=.local\/p.2=.globalImplicit\/(p.2=.free/\(nm.lookup p.1).isSome=true/\gl.cells.contains p.1=true)
theorem A9{s:O7}(h:mJ s x i nm gl=true):i6 s x i nm gl:=by
 simp only[mJ,Lu,beq_iff_eq,decide_eq_true_eq,LS,bne_iff_ne,Mo] at h;refine ay h λb H=>ay b λB a=>?_;obtain⟨⟨c,d⟩,e⟩:=B;refine⟨c,d,e,a,λp P=>?_⟩;rcases H p P with((h |h) |h) |h
 ·exact .inl h.2
 ·exact .inl h.2
 ·exact .inr (.inl h)
 ·exact .inr (.inr ⟨h.1.1,h.1.2,h.2⟩)
theorem i6.cell{s:O7}{x:KR}{i:Nat}(o:i6 s x i nm gl)(V:EnvR κ nm gl env J H ad h){p:KR×Mc}(P:p∈s.names)(K:p.2=.free):
  ∃j c,nm.lookup p.1=U j/\(env.kindOf p.1=U .cell\/env.kindOf p.1=U .free)/\env.cells.lookup p.1=U c/\jD H ad c/\(∃w,h.IsCell c w)/\∀v,(J[j]?).join=U v->∃y,h.IsCell c (U y)/\aJ κ H ad h v y:=by
 refine KS (o.all p P) (λq=>?_) λr=>KS r (λq=>?_) λR=>cH R λ_ Q g=>cV (LK.mp Q) λj e=>KS (V.var _ _ e) (λa=>ay a λk _=>absurd k (V.ck _ g)) λb=>ay b λk d=>lf d λc C I w f=>⟨j,c,e,k,C,I,w,f⟩;·rw[K] at q;exact(nomatch q)
 ·rw[K] at q;exact(nomatch q)
theorem g5{K W:Type}[BEq K][LawfulBEq K]{l:List (K×W)}(H:(l.map (·.1)).Nodup){p:K×W}(h:p∈l):l.lookup p.1=U p.2:=kg H h
theorem zO{s:O7}(q:i6 s x i nm gl)(V:EnvR κ nm gl env J H ad h){m:KR->Option KI}(n:h.Ns L m){X:KI}(M:m x=U X)(r:aJ κ H ad h v X)
  (I:jD H ad L)(A:κ.base.objs.size<=L):EnvR κ (b0 nm x i s.names) (li gl.gJ s) (RN s (oP env s.names []) L env) (J.set i (U v)) H ad h where
 kind:=q.kind
 wB:=V.wB
 blt:=V.blt
 ns:=⟨m,n⟩
 above:=A
 im:=I
 var:=λy j b=>by
  have d:∀z,(RN s (oP env s.names []) L env).kindOf z=(s.names.lookup z).map (zt env z):=λz=>eA;rcases r' b with⟨rfl,rfl⟩ |⟨N,F,g⟩
  ·refine .inl ⟨?_,λw W=>?_⟩
   ·simp only[d,q.hx];rfl
   ·by_cases cQ:j<J.length
    ·rw[OA cQ] at W
     (replace W:=KC W;subst W)
     exact⟨m,X,n,M,r⟩
    ·rw[NU (by simpa using cQ)] at W
     exact al W
  ·refine GB (q.cell V F rfl) λo c a k C l w f=>?_
   simp only at a k C f;rw[g] at a
   (replace a:=KC a;subst a)
   refine Z (OT (λe=>q.GD _ (cz g) e.symm:i≠j)) (.inr ⟨?_,c,vz C F,l,w,f⟩);simp only[d,kg q.hL F];simp only[Nr,zt];split;·exact .inl rfl
   ·exact .inr rfl
 c5:=λy b=>by refine((Z eA ?_):(Rf s env).names.lookup y=_);simp only[li,Gl.contains,wv,QW,Lo,MA,beq_iff_eq,decide_eq_true_eq] at b;obtain⟨p,⟨P,K⟩,rfl⟩:=b;refine Z (g5 q.hL P) (Z K ?_);rfl
 gJ:=V.gJ
 ck:=λy b=>by
  refine((Z eA ?_):(Rf s env).names.lookup y≠_);simp only[li,wC,QW,Lo,MA,Mo,beq_iff_eq,decide_eq_true_eq] at b;obtain⟨p,⟨P,K⟩,rfl⟩:=b;refine Z (g5 q.hL P) ?_;simp only[Nr,zt,ne_eq,ON];refine KS K (λK=>?_) λK=>?_;·refine Z K ?_;split<;>exact λe=>nomatch e
  ·refine Z K ?_;split<;>exact λe=>nomatch e
theorem uz(R:bf κ H (ad.a9 D) s)(N:¬ad.z D)(h:κ.base.get? D=KF)(g:s.heap.get? D=U {cls:=.type "list",data:=.seq vs n})(z:vs.size<=LG)
  (f:aF κ H (ad.a9 D) s.heap xs vs.toList)(S:Step X Uc Ud T' ad H s.heap)(d:T'.get? D=KF){Q:PV}(q:newList xs Q H):
  ∃ad' H' v,Q v H'/\aJ κ H' ad' s.heap v (.ref D)/\bf κ H' ad' s/\Step X Uc Ud T' ad' H' s.heap/\ad'.z=ad.z/\∀a,e3 H' ad' a->e3 H ad a\/a=D:=by
 unfold ai.newList at q;refine KS q.2 (λq=>⟨ad,H,_,q,⟨D,vs,n,rfl,⟨R.zf D (.inl rfl),N⟩,g,z,f.aL fe⟩,R.wy,S,rfl,λa l=>.inl l⟩) λb=>g9 b λk t q=>?_
 ·refine⟨ad.aH ⟨k,t,H.n⟩ D,H.new k t (.list xs),_,q,?_,R.aH N h (x:=.list xs) ⟨vs,n,g,z,f⟩,S.aH R.au d,rfl,λa l=>?_⟩
  ·simp[aJ,Ad.aH,Hp.new]
  ·refine aD l λr i e=>?_
   by_cases c:r=⟨k,t,H.n⟩;·exact .inr (by simpa[Ad.aH,c] using e.symm)
   ·exact .inl ⟨r,by simpa[Hp.new,c] using i,by simpa[Ad.aH,c] using e⟩
theorem xE(it:kf κ H ad s.heap I j){Q:KI->K2->Prop}(q:Q (.ref I) s):KV (K5 κ.prog κ.w) A (Tq (.ref I)) Q E s:=by
 induction j with
 |cZ r i=>exact Rt it.1 q
 |bp l=>exact KS it (λR=>qV R λt xs n i it _=>wpAny_pyIter_tupleiter it q) λa=>KS a (λb=>qV b λt xs n i it _=>Rt it q) λc=>aD c λx g e=>wpAny_pyIter_rangeiter g q
 |dict r v l=>exact sp it λes ep i it _=>RK it q
theorem qz:(ad.a9 a).a9 b=(ad.a9 b).a9 a:=by exact congrArg (Ad.mk ad.f) (funext λ_=>propext or_left_comm)
end
variable {T3 T7:Hp} {T2 T5 Ua:Ad} {T4:Shared} {T6:Heap}
section
variable {A:Around} {h:Heap}
theorem EnvR.a9(V:EnvR κ nm gl env J H ad h)(k:∀b o,h.get? b=U o->h'.get? b=U o)(a:h.get? I=none):EnvR κ nm gl env J H (ad.a9 I) h':=
 V.jY (cy k a) λb o _ e i=>⟨⟨i.1,λq=>q.elim (λq=>by subst q;replace e:=a▸e;exact al e) i.2⟩,k b o e⟩
theorem kf.a9(k:∀b o,h.get? b=U o->h'.get? b=U o)(d:h.get? D=none):kf κ H ad h I j->kf κ H (ad.a9 D) h' I j:=
 kf.mv (ad:=ad) (ad':=ad.a9 D) (H:=H) (H':=H) (λ_ _ a _=>k _ _ a) (λ_ _ g _ i=>⟨⟨i.1,λq=>q.elim (λq=>al (d.symm.trans (hR q g))) i.2⟩,k _ _ g⟩) (λ_ _ f=>f.aL (cy k d)) (λ_ n=>⟨n,rfl⟩) λr v es ep n V Q=>⟨V,λe s=>(Q e s).elim λc w=>⟨c,k _ _ w.1,w.2⟩⟩
structure eK(κ:dz)(Ua:Ad)(T3:Hp)(T6:Heap)(I D L:Lb)(T5:Ad)(T7:Hp)(T4:K2)(j:It)(acc:List V):Prop where
 R:bf κ T7 T5 T4
 it:kf κ T7 T5 T4.heap I j
 g:∃ys n,T4.heap.get? D=U {cls:=.type "list",data:=.seq ys n}/\aF κ T7 T5 T4.heap acc ys.toList
 ns:∃m,T4.heap.Ns L m
 nl:¬e3 T7 T5 L
 S:Step dD Ua T3 T6 T5 T7 T4.heap
theorem eK.step{acc:List V}(P:eK κ Ua T3 T6 I D L T5 T7 T4 j acc)(z:Ua.z I)(d:Ua.z D)(S:Step dD T5 T7 T4.heap ad' H' s'.heap)(R:bf κ H' ad' s'):eK κ Ua T3 T6 I D L ad' H' s' j acc where
 R:=R
 it:=P.it.step S R.au (P.R.zf I (Z P.S.z z))
 g:=let ⟨ys,n,g,f⟩:=P.g;⟨ys,n,S.keep _ _ g (P.R.zf D (Z P.S.z d)) λq=>q.elim,f.step S R.au⟩
 ns:=by exact qV P.ns λm o es ep e r=>⟨m,o,es,ep,S.keep _ _ e P.nl λf=>f.elim,r⟩
 nl:=by exact qV P.ns λm o es ep e r=>S.mM R.au e P.nl
 S:=P.S.trans S P.R.au
theorem y6{c:Option Ex}(a:Ex.En nm gl c e=true)(i:∀e,c=U e->ST κ G C d e)(b:cj d A)(V:EnvR κ nm gl env J H ad s.heap)(R:bf κ H ad s){Q:Bool->Hp->Prop}(h:Ex.EF G C c J Q H):
  KV (K5 κ.prog κ.w) A (forIn (Ex.FD nm c e) true λc r=>if r=true then do let ok<-QC c env (Nz c env);pure (L8 ok) else pure (L8 r)) (jB κ dD ad H s.heap Q) E s:=by
 induction c with
 |none=>exact KL ⟨ad,H,h,R,Step.refl⟩
 |some m=>
  refine(?_ :KV _ A (forIn [m.py nm e] true _) _ E s)
  (rw[M2];refine Z (if_pos rfl) ?_)
  exact KA (KA (K0 (i m rfl e nm gl a A E env J Q H ad s b V R h) (λt S p=>KL (KL p)) λ_ _ y=>y))
structure CK(κ:dz)(Ua:Ad)(T6:Heap)(I D L:Lb):Prop where
 hI:T6.get? I=KF
 fD:T6.get? D=KF
 fL:T6.get? L=KF
 ID:I≠D
 LI:L≠I
 LD:L≠D
 zI:Ua.z I
 zD:Ua.z D
 zL:¬Ua.z L
 bL:κ.base.get? L=KF
theorem wJ{m:KR->Option KI}(n:h.Ns L m)(e:∀o,h.get? L=U o->h'.get? L=U o):h'.Ns L m:=
 let ⟨o,es,ep,g,r⟩:=n;⟨o,es,ep,e o g,r⟩
theorem uc{acc:List V}(c:CK κ Ua T6 I D L)(P:eK κ Ua T3 T6 I D L T5 T7 T4 j acc){w:V}(r:aJ κ T7 T5 T4.heap w y)(H:acc.length<aN){K:K2->Prop}
  (k:∀s',eK κ Ua T3 T6 I D L T5 T7 s' j (acc++[w])->K s'):KV (K5 κ.prog κ.w) A (call (.builtin "list.append") [.ref D,y]) (λ_ s'=>K s') E T4:=by
 have z:T5.z D:=(congrFun P.S.z D).mpr c.zD;exact eH P.g λys n g f=>Q4 ⟨n,g⟩ (λh' l h=>cV l λN g'=>k _ ⟨P.R.tU z h.extBut ⟨_,g'⟩ T4.toks,P.it.tU z h.extBut c.ID.symm (P.R.zf D z),⟨_,N,g',Z Pp ((f.aL (dj z h.extBut)).append ⟨y,[],rfl,r.aL (dj z h.extBut),rfl⟩)⟩,P.ns.elim λm e=>⟨m,wJ e λo g=>(h.2 _ c.LD).trans g⟩,P.nl,P.S.hY c.fD h.extBut (P.R.pM z)⟩) (KB (KQ (Le.symm.trans f.length.symm)) (nP H))
theorem xA{acc:List V}{elt:Ex}{ex:KN}{E f g:KI->K2->Prop}(c:CK κ Ua T6 I D L)(P:eK κ Ua T3 T6 I D L T5 T7 T4 j acc)(B:cj d A)(W:EnvR κ nm gl env J T7 T5 T4.heap)
  (F:Ex.En nm gl n i=true)(T:∀e,n=U e->ST κ G C d e)(v:elt.ok nm gl ex=true)(X:SE κ G C d elt){Q:List V->Hp->Prop}
  (q:Ex.EF G C n J (λt h=>if t=true then elt.wp G C J (Eo acc Q) h else Q acc h) T7){K:K2->Prop}
  (k:∀ad' H' s' a,Q a H'->eK κ Ua T3 T6 I D L ad' H' s' j a->K s'):
  KV (K5 κ.prog κ.w) A (forIn (Ex.FD nm n i) true λc r=>if r=true then do let ok<-QC c env (Nz c env);pure (L8 ok) else pure (L8 r))
   (λok S=>if ok=true then KV (K5 κ.prog κ.w) A (Nz (elt.py nm ex) env) (λx l=>KV (K5 κ.prog κ.w) A (call (.builtin "list.append") [.ref D,x]) (λ_ s'=>K s') E l) f S else K S) g T4:=by
 refine K0 (y6 F T B W P.R q) (λt m p=>?_) λ_ _ y=>y;obtain⟨b,H,q,R,s⟩:=p;induction t with
 |false=>exact k _ _ _ _ q (P.step c.zI c.zD s R)
 |true=>refine K0 (X _ _ _ v A _ _ _ _ H b m B (W.step s R.au) R q) (λyv M p=>?_) λ_ _ y=>y;obtain⟨z,N,w,q,Z,o,u⟩:=p;exact uc c ((P.step c.zI c.zD s R).step c.zI c.zD u o) Z q.1 λs' P'=>k _ _ _ _ q.2 P'
theorem xj{J:It}{acc:List V}{e:Pl}{K:K2->Prop}(c:CK κ Ua T6 I D L)(P:eK κ Ua T3 T6 I D L T5 T7 T4 j acc)(l:e.locals=L)(s:e.kindOf x=U .local)(u:(e.scope.kind==.class||(e.scope.kind==.module&&e.locals !=e.globals))=false)
  {v:V}{d:KI}{t:Nat}(b:LL I T4.heap h')(ex:∃B,h'.get? I=U B)(y:aJ κ T7 T5 h' v d)(C:kf κ T7 T5 h' I J)
  (k:∀s' m,m x=U d->s'.heap.Ns L m->aJ κ T7 T5 s'.heap v d->eK κ Ua T3 T6 I D L T5 T7 s' J acc->K s'):
  KV (K5 κ.prog κ.w) A (QD (.Name x px) e d) (λ_ s'=>K s') E {T4 with heap:=h',toks:=t}:=by
 subst l;have Z:T5.z I:=(congrFun P.S.z I).mpr c.zI;have R:=P.R.tU Z b ex t;refine qV P.ns λm o es ep l r=>eH P.g λys n g f=>SB (Rr s ⟨o,es,ep,b _ _ c.LI l,r⟩ (λi h H=>?_) u);have T:=jZ (X:=λa=>a=e.locals) R P.nl (λz=>c.zL ((congrFun P.S.z _).mp z):¬T5.z e.locals) c.bL (b _ _ c.LI l) (.inl ⟨es,ep,r.1⟩) H (h.elim λo w=>w.elim λ_ w=>w.elim λ_ w=>⟨o,w.1⟩) rfl (t+1);exact k _ _ (if_pos rfl) h (y.aL (T.2.aL T.1.au)) ⟨T.1,C.step T.2 T.1.au (R.zf I Z),⟨ys,n,(H.2 _ c.LD.symm).trans (b _ _ c.ID.symm g),(f.aL (dj Z b)).aL (T.2.aL T.1.au)⟩,⟨_,h⟩,P.nl,
  (P.S.hY c.hI b (P.R.pM Z)).hY c.fL H.extBut λr p=>⟨λq=>P.nl ⟨r,p,q⟩,R.cZ ⟨r,p,rfl⟩⟩⟩
theorem AW{acc:List V}{K:KI->K2->Prop}(c:CK κ ((T2.a9 D).a9 I) T6 I D L)(P:eK κ ((T2.a9 D).a9 I) T3 T6 I D L T5 T7 T4 j acc)(N:¬(T2.a9 D).z I)(d:¬T2.z D)(b:κ.base.get? D=KF)(E:LL I T4.heap h')
  (q:newList acc Q T7)(k:∀s' ad' H' v,Q v H'->aJ κ H' ad' s'.heap v (.ref D)->bf κ H' ad' s'->Step dD T2 T3 T6 ad' H' s'.heap->¬e3 H' ad' L->¬ad'.z L->(∃m,s'.heap.Ns L m)->K (.ref D) s'):K (.ref D) {T4 with heap:=h'}:=by
 refine eH P.g λys n g f=>?_;have r:=P.R;rw[P.S.mK] at r f;refine uJ (uz (ad:=⟨T5.f,T2.z⟩) (r.iw N E T4.toks:bf κ T7 (Ad.a9 ⟨T5.f,T2.z⟩ D) {T4 with heap:=h'}) d b (E _ _ c.ID.symm g) (KB (KQ (Le.symm.trans f.length.symm)) (dy (gQ q))) (f.aL (gC (ad:=Ad.a9 ⟨T5.f,T2.z⟩ D) E)) (((P.S.hY c.hI E (P.R.pM ((congrFun P.S.z I).mpr c.zI))).HK).HK:Step dD T2 T3 T6 ⟨T5.f,T2.z⟩ T7 h') c.fD q) λad' H' v h R i S' Z a=>k _ ad' H' v h R i S' (λl=>(a _ l).elim P.nl c.LD) (λz=>c.zL (.inr (.inr ((congrFun Z _).mp z)))) (P.ns.elim λm e=>⟨m,wJ e λo g=>E _ _ c.LI g⟩)
def qm(G:String->Option V)(C:Ctx)(n:Option Ex)(elt:Ex)(J:aV)(i:Nat)(v:V)(acc:List V)(Q:List V->Hp->Prop)(h:Hp):Prop:=
 Ex.EF G C n (J.set i (U v)) (λt h=>if t=true then elt.wp G C (J.set i (U v)) (Eo acc Q) h else Q acc h) h
inductive HA(κ:dz)(G:String->Option V)(C:Ctx)(n:Option Ex)(elt:Ex)(J:aV)(i:Nat)(Q:PV)(Ua:Ad)(T3:Hp)(T6:Heap)(I D L:Lb)(m:Nat)(s:K2):Prop
 |mk (T5:Ad) (T7:Hp) (j:It) (acc:List V) (q:ai.iter (qm G C n elt J i) m j acc (jJ Q) T7) (P:eK κ Ua T3 T6 I D L T5 T7 s j acc)
theorem xH{elt:Ex}{ex:KN}{E:Pl}{acc:List V}{T:K2->Prop}{F:Option KI->K2->Prop}{K:KI->K2->Prop}{p t u y B:KI->K2->Prop}(W:cj d A)
  (c:CK κ ((T2.a9 D).a9 I) T6 I D L)(q:ai.iter (qm G C n elt J i) m j acc (jJ Q) T7)(P:eK κ ((T2.a9 D).a9 I) T3 T6 I D L T5 T7 T4 j acc)(nI:¬(T2.a9 D).z I)(nD:¬T2.z D)(bD:κ.base.get? D=KF)(eL:E.locals=L)(kx:E.kindOf x=U .local)(hp:(E.scope.kind==.class||(E.scope.kind==.module&&E.locals !=E.globals))=false)
  (X:Ex.En N g n o=true)(ic:∀e,n=U e->ST κ G C d e)(Z:elt.ok N g ex=true)(ie:SE κ G C d elt)
  (hW:∀H' ad' h' m v xv,Step dD ((T2.a9 D).a9 I) T3 T6 ad' H' h'->bS H'->h'.Ns L m->m x=U xv->aJ κ H' ad' h' v xv->jD H' ad' L->EnvR κ N g E (J.set i (U v)) H' ad' h')
  (k:∀s' ad' H' v,Q v H'->aJ κ H' ad' s'.heap v (.ref D)->bf κ H' ad' s'->Step dD T2 T3 T6 ad' H' s'.heap->¬e3 H' ad' L->¬ad'.z L->(∃m,s'.heap.Ns L m)->K (.ref D) s')
  (hT:∀m' ad' H' s' H b,m'<m->ai.iter (qm G C n elt J i) m' H b (jJ Q) H'->eK κ ((T2.a9 D).a9 I) T3 T6 I D L ad' H' s' H b->T s')
  (h0:∀s,K (.ref D) s->F KF s)
  (h1:∀v s,KV (K5 κ.prog κ.w) A (QD (.Name x px) E v) (λ_ T4=>
     KV (K5 κ.prog κ.w) A (forIn (Ex.FD N n o) true λc r=>if r=true then do let ok<-QC c E (Nz c E);pure (L8 ok) else pure (L8 r))
      (λok S=>if ok=true then KV (K5 κ.prog κ.w) A (Nz (elt.py N ex) E) (λx M=>KV (K5 κ.prog κ.w) A (call (.builtin "list.append") [.ref D,x]) (λ_ s'=>T s') p M) t S else T S) u T4) y s->F (U v) s):
  KV (K5 κ.prog κ.w) A (Oc (.ref I)) F B T4:=by
 have zI:T5.z I:=(congrFun P.S.z I).mpr c.zI;induction m using MG with
 |zero=>exact q.elim
 |succ m=>refine pV q|>.elim (λw=>mF W.handled P.R zI w.1 P.it (λ_ h' ke=>h0 _ (AW c P nI nD bD ke w.2 k)) λ_ _ _ _ _ e=>al e) λw=>w.elim λv w=>w.elim λH w=>mF W.handled P.R zI w.1 P.it (λe=>al e.symm) λv' aa xv h' tk e ke ob rv ij=>h1 _ _ (ay (Lz (KC e)) λf l=>?_);subst f;clear e;subst l;exact xj c P eL kx hp ke ob rv ij λs' mm hm hn rv R=>xA (Q:=λa h=>ai.iter (qm G C n elt J i) m H a (jJ Q) h) c R W (hW _ _ _ _ _ _ R.S R.R.au hn hm rv ⟨R.nl,λz=>c.zL ((congrFun R.S.z _).mp z)⟩) X ic Z ie w.2 λad' H' s' b q P=>hT m ad' H' s' H b (LU m) q P
structure CO(κ:dz)(T2:Ad)(T3:Hp)(s:K2)(I D L:Lb)(h:Heap)(j:It):Prop where
 c:CK κ ((T2.a9 D).a9 I) s.heap I D L
 nI:¬(T2.a9 D).z I
 nD:¬T2.z D
 nL:¬T2.z L
 bD:κ.base.get? D=KF
 lt:∀b o,s.heap.get? b=U o->b<L
 P:∀t,eK κ ((T2.a9 D).a9 I) T3 s.heap I D L ((T2.a9 D).a9 I) T3 {s with heap:=h,toks:=t} j []
theorem nf{b:Type}{o:Option b}(h:∀a,o≠U a):o=KF:=by
 induction o with
 |none=>rfl
 |some a=>exact absurd rfl (h a)
theorem ye{s:K2}{H a:Heap}{m:KR->Option KI}{x:K4}(R:bf κ T3 T2 s)(i:s.heap.get? I=KF)(c:∃o,h.get? I=U o)(P:∀b o,s.heap.get? b=U o->h.get? b=U o)(J:kf κ T3 (T2.a9 I) h I j)
  (E:h.push {cls:=.type "list",data:=.seq #[]}=H)(v:a.Ns H.objs.size m)(w:MC H.objs.size (H.push x) a):CO κ T2 T3 s I h.objs.size H.objs.size a j:=by
 refine cV c λy G=>?_;have f:=aW h (KX h.objs.size);have fL:=aW H (KX H.objs.size);have K:∀b o,h.get? b=U o->H.get? b=U o:=λb o e=>hR E (KT _ e);have p:∀b o,H.get? b=U o->a.get? b=U o:=λb o e=>(w.2 b λq=>al (fL.symm.trans (hR q e))).trans (KT _ e);have k:∀b o,h.get? b=U o->a.get? b=U o:=λb o e=>p _ _ (K _ _ e);have d:H.get? h.objs.size=U {cls:=.type "list",data:=.seq #[]}:=hR E (KY _ rfl);have D:s.heap.get? h.objs.size=KF:=nf λo e=>al (f.symm.trans (P _ _ e));have S:s.heap.get? H.objs.size=KF:=nf λo e=>al (fL.symm.trans (K _ _ (P _ _ e)));have n:I≠h.objs.size:=λe=>al (f.symm.trans (hR e G));have L:H.objs.size≠I:=λe=>al (fL.symm.trans (Z e (K _ _ G)));have u:H.objs.size≠h.objs.size:=λe=>al (fL.symm.trans ((congrArg _ e).trans d));have N:=f' R S;exact⟨⟨i,D,S,n,L,u,.inl rfl,.inr (.inl rfl),λz=>z.elim L λz=>z.elim u N,ei R S⟩,λz=>z.elim n (f' R i),(f' R D),N,ei R D,λb o e=>Lh (K _ _ (P _ _ e)),λt=>
  ⟨qz ..▸(R.a9 P rfl rfl i ⟨_,G⟩:bf κ T3 (T2.a9 I) {s with heap:=h}).a9 (s':={s with heap:=a,toks:=t}) k rfl rfl f ⟨_,p _ _ d⟩,qz ..▸J.a9 k f,⟨#[],_,p _ _ d,rfl⟩,⟨_,v⟩,
   λ⟨r,l,e⟩=>(R.cZ ⟨r,l,e⟩).elim λo g=>al (S.symm.trans g),Step.keeps (λb o e=>k _ _ (P _ _ e)) λr l=>R.cZ ⟨r,l,rfl⟩⟩⟩
theorem z'{elt:Ex}{n:Option Ex}{ex iter:KN}{c:O7}{pos:P9}{K:KI->K2->Prop}{R:Except KI Sn->K2->Prop}
  (E:SE κ G C d elt)(r:∀e,n=U e->ST κ G C d e)(aa:i6 c x i nm gl)(H:Ex.En (b0 nm x i c.names) (li gl.gJ c) n b=true)(g:elt.ok (b0 nm x i c.names) (li gl.gJ c) ex=true)(u:cj d A)
  (o:CO κ T2 T3 a I D L h j)(V:EnvR κ nm gl env J T3 T2 a.heap)(q:ai.iter (qm G C n elt J i) m j [] (jJ Q) T3)(z:∀s,K (.ref D) s->R (.ok .next) s)
  (k:∀s' ad' H' v,Q v H'->aJ κ H' ad' s'.heap v (.ref D)->bf κ H' ad' s'->Step dD T2 T3 a.heap ad' H' s'.heap->¬e3 H' ad' L->¬ad'.z L->(∃m,s'.heap.Ns L m)->K (.ref D) s')(t:Nat):
  OY (K5 κ.prog κ.w) A (.compLoop (.ListComp (elt.py (b0 nm x i c.names) ex) [⟨.Name x px,iter,Ex.FD (b0 nm x i c.names) n b,0⟩] c pos) 0 (.ref I) (.ref D) (RN c (oP env c.names []) L env)) R {a with heap:=h,toks:=t}:=
 codeAny_compLoop_tests (HA κ G C n elt J i Q ((T2.a9 D).a9 I) T3 a.heap I D L) (λm T4 p=>by
  obtain⟨T5,T7,j,acc,q,P⟩:=p;refine xH (px:=px) (K:=K) u o.c q P o.nI o.nD o.bD rfl ?_ ?_ H r g E (λH' ad' h' m v X S st N M B F=>zO aa (((V.a9 (λ_ _ e=>e) o.c.fD).a9 (λ_ _ e=>e) o.c.hI).step S st) N M B F (V.ns.elim λm w=>w.elim λ_ w=>w.elim λ_ w=>w.elim λ_ w=>Lq (KU V.above (o.lt _ _ w.1)))) k (λT ad' H' s' W f l q P=>⟨T,l,ad',H',W,f,q,P⟩) z λ_ _ y=>y;·refine((Z eA (Z aa.hx ?_)):(Rf c env).names.lookup x=_);rfl
  ·refine Z (aa.kind:(RN c (oP env c.names []) L env).scope.kind=.function) ?_;rfl) m ⟨_,_,j,[],q,o.P t⟩
theorem vn(Z:fK κ G){elt:Ex}{c:Option Ex}{S:K2}{X:KI}{j:It}(ie:SE κ G C d elt)(ic:∀e,c=U e->ST κ G C d e)
  {ex iter u:KN}{x:KR}{px:P9}{b:O7}{pos:P9}(aa:i6 b x i nm gl)(F:Ex.En (b0 nm x i b.names) (li gl.gJ b) c u=true)(M:elt.ok (b0 nm x i b.names) (li gl.gJ b) ex=true)(hA:cj d A)
  (V:EnvR κ nm gl env J T3 T2 S.heap)(r:bf κ T3 T2 S)(rx:aJ κ T3 T2 S.heap v X)(hj:It.start T3 v=U j){Q:PV}(q:ai.iter (qm G C c elt J i) n j [] (jJ Q) T3){R:KI->Lb->Except KI Sn->K2->Prop}{E w z:KI->K2->Prop}
  (k:∀acc L s' ad' H' v,Q v H'->aJ κ H' ad' s'.heap v acc->bf κ H' ad' s'->Step dD T2 T3 S.heap ad' H' s'.heap->S.heap.get? L=KF->¬e3 H' ad' L->¬ad'.z L->κ.base.get? L=KF->(∃m,s'.heap.Ns L m)->R acc L (.ok .next) s'):
  KV (K5 κ.prog κ.w) A (Tq X) (λit T4=>KV (K5 κ.prog κ.w) A (Qb []) (λacc B=>KV (K5 κ.prog κ.w) A (newFunctionEnv b env.globals (oP env b.names []) [] env.qual KF .none (U env)) (λf D=>OY (K5 κ.prog κ.w) A (.compStart (.ListComp (elt.py (b0 nm x i b.names) ex) [⟨.Name x px,iter,Ex.FD (b0 nm x i b.names) c u,0⟩] b pos) 0 it acc {f with scope:=Rf b env}) (R acc f.locals) D) E B) w T4) z S:=by
 refine ww Z r hj rx λI T hI N P ij=>MV (wpAny_newFunctionEnv (λp hp hk=>?_) (by intro y hy;simp at hy) (λW h H=>?_) aa.kind);·refine KS (aa.all p hp) (λq=>?_) λg=>KS g (λq=>?_) λl=>ay l λq _=>?_ <;>rw[hk] at q<;>exact(nomatch q)
 have o:=ye r hI N P ij rfl h H;have run:=λt=>z' (t:=t) (iter:=iter) (px:=px) (pos:=pos) (R:=R _ _) (K:=λa s=>R a _ (.ok .next) s) ie ic aa F M hA o V q (λ_ y=>y) λs' ad' H' v qv rv R' S' nl nz ns=>k _ _ s' ad' H' v qv rv R' S' o.c.fL nl nz o.c.bL ns;exact codeAny_compStart_list (run _) (xE (o.P _).it (run _))
theorem qw(z:fK κ G){elt:Ex}{c:Option Ex}(B:SE κ G C d elt)(D:SE κ G C d it)(M:∀e,c=U e->ST κ G C d e)
  {ex iter I:KN}{x:KR}{px:P9}{a:O7}{pos P:P9}
  (f:mJ a x i nm gl=true)(t:it.ok nm gl iter=true)(F:Ex.En (b0 nm x i a.names) (li gl.gJ a) c I=true)(l:elt.ok (b0 nm x i a.names) (li gl.gJ a) ex=true)
  (o:cj d A)(V:EnvR κ nm gl env J H ad s.heap)(R:bf κ H ad s){Q:PV}(W:(Ex.comp elt i it c).wp G C J Q H){u:Option (KI->SV Unit)}{b:KI->K2->Prop}
  (k:∀acc L s' ad' H' v,Q v H'->aJ κ H' ad' s'.heap v acc->bf κ H' ad' s'->Step dD ad H s.heap ad' H' s'.heap->s.heap.get? L=KF->¬e3 H' ad' L->¬ad'.z L->κ.base.get? L=KF->(∃m,s'.heap.Ns L m)->
   compPost (K5 κ.prog κ.w) A E u b acc L (.ok .next) s'):
  KV (K5 κ.prog κ.w) A (comprehension (.ListComp (elt.py (b0 nm x i a.names) ex) [⟨.Name x px,it.py nm iter,Ex.FD (b0 nm x i a.names) c I,0⟩] a pos) a env P (Qb []) false (Nz (it.py nm iter) env) u) b E s:=by
 have aa:=A9 f;have h:∀p∈a.names,p.2=.free->(env.cells.lookup p.1).isSome=true:=λp g K=>by refine Bm (aa.cell V g K) λj c _ _ N _=>Z N ?_;rfl
 refine wpAny_comprehension_free rfl (Dk it nm iter env) (vg h) aa.kind (λp g K=>hR K (g5 aa.hL g)) (K0 (D _ nm gl t A E env J _ H ad s o V R W) (λxv w p=>?_) λ_ _ y=>y);obtain⟨T2,T3,v,q,X,r,S⟩:=p;obtain⟨j,T,n,q⟩:=aQ q;exact vn z B M aa F l o (V.step S r.au) r X T q λacc L s' ad' H' v q rv R' S' fL nl nz bL ns=>k _ _ s' ad' H' v q rv R' (S.trans S' r.au) (nf λob e=>(S.bv _ _ e).elim λo' e'=>al (fL.symm.trans e')) nl nz bL ns
theorem n6{o:K4}(g:h.get? L=U o)(f:cv o)(k:LL L h h'):fJ ad H h ad H h':=
 ⟨λb a e n i=>⟨i,k b a (λq=>by clear k;subst q;rw[g] at e;obtain rfl:=KC e;exact n f) e⟩,λ_ _=>rfl,KX _⟩
theorem bf.Hg(R:bf κ H ad s){o:K4}(g:s.heap.get? L=U o)(f:cv o)(n:¬e3 H ad L)(N:¬ad.z L)(B:κ.base.get? L=none)(k:LL L s.heap h')(t:Nat):bf κ H ad {s with heap:=h',toks:=t} where
 base:=λb o e=>k b o (λq=>by clear k N n g;subst q;rw[B] at e;exact al e) (R.base b o e)
 gens:=R.gens
 os:=R.os
 au:=R.au
 inj:=R.inj
 new:=R.new
 obj:=λr o e=>by have q:=R.obj r o e;obtain⟨d,g'⟩:=q.ex;exact q.aL (n6 g f k) ((k _ _ (λz=>n ⟨r,by refine Z e ?_;rfl,z⟩) g').trans g'.symm)
 zf:=R.zf
 k7:=λa q=>by obtain⟨o,e⟩:=R.k7 a q;exact⟨o,k a o (λc=>N (hR c q)) e⟩
 zb:=R.zb
theorem zd(n:∃m,h.Ns L m):∃o,h.get? L=U o/\cv o:=by exact oT n λm o es ep e d _=>⟨o,e,.inl ⟨es,ep,d⟩⟩
theorem uq(k:fK κ G){elt:Ex}{c:Option Ex}(I:SE κ G C d elt)(m:SE κ G C d it)(p:∀e,c=U e->ST κ G C d e):SE κ G C d (.comp elt i it c):=by intro e nm gl u A E env J Q H ad s w V R W;refine v6 u λh _ t f l=>(?_ :KV _ A (Nz (.ListComp _ _ _ _) env) _ E s);simp only[eval_ListComp];exact qw k I m p h t f l w V R W λacc L s' ad' H' v q x b S y n Z B N=>⟨_,N.choose_spec,λh' a=>aD (zd N) λo g F=>⟨ad',H',v,q,x.aL (n6 g F a.extBut),b.Hg g F n Z B a.extBut s'.toks,S.hY y a.extBut λr j=>⟨λz=>n ⟨r,j,z⟩,b.cZ ⟨r,j,rfl⟩⟩⟩⟩
theorem E7(V:h8 κ nm gl env J H ad h)(x:FX env a):∃o,h.get? a=U o:=by
 rcases x with rfl |⟨x,c⟩
 ·exact qV V.ns λm o es ep e _=>⟨o,e⟩
 ·exact cH (V.cell x a c) λ_ b _=>eH b λw o e _=>⟨o,e⟩
theorem z6(KO:fK κ G){elt:Ex}{c:Option Ex}(ig:SG κ G C d t)(ie:SE κ G C d elt)(ii:SE κ G C d it)(ic:∀e,c=U e->ST κ G C d e){pos:P9}
  (h1:t.ok nm gl x=true)(h2:(Ex.comp elt i it c).ok nm gl v=true)(hs:OC [t.py nm x] ((Ex.comp elt i it c).py nm v) pos.line env=pure true)
  (P:cj d A)(V:h8 κ nm gl env J H ad s.heap)(R:bf κ H ad s)(hw:St.wp G C (.a8 t (.comp elt i it c)) J Q H):KV (K5 κ.prog κ.w) A (exec (.Assign [t.py nm x] ((Ex.comp elt i it c).py nm v) pos) env) (di κ nm gl env ad H s.heap Q) E s:=by
 simp only[Tf];refine KA (ML (Z hs (KA (KL (Z (if_pos rfl) (v6 h2 λu _ T F B=>KA (Z (arm_evalThenUse_ListComp ..) (KA (K0 (Q:=λ_ s'=>di κ nm gl env ad H s.heap Q .next s') (qw KO ie ii ic u T F B P V.toEnvR R hw λacc L s' ad' H' w q rv D S W I nz nb X=>?_) (λ_ _ p=>KL (KL p)) λ_ _ y=>y)))))))));refine((fN (K0 (ig x nm gl h1 A E env J _ H' ad' s' w acc P (V.step S D.au) D rv q) (λ_ K p=>?_) λ_ _ y=>y)):KV _ A (SR acc ((MO [t.py nm x] env).map (·.2))) _ E s');obtain⟨T5,T7,k,l,m,f,a⟩:=p;refine aD (zd X) λo g fd=>?_;have nx:¬FX env L:=λx=>by obtain⟨o,e⟩:=E7 V x;rw[W] at e;exact al e
 have j:=a.keep _ _ g I λx=>absurd x nx;have n:=a.mM f.au g I;have N:¬T5.z L:=Z a.z nz;exact⟨_,sp X.choose_spec λM es ep e r=>⟨M,es,ep,a.keep _ _ e I λx=>absurd x nx,r⟩,λh' h=>⟨T5,T7,k,.next,l,rfl,m.jY (n6 j fd h.extBut) (λb M xb e i=>⟨i,h.extBut b M (λq=>nx (hR q xb)) e⟩),f.Hg j fd n N nb h.extBut K.toks,(S.fx.trans a D.au).hY W h.extBut λr hr=>⟨λz=>n ⟨r,hr,z⟩,f.cZ ⟨r,hr,rfl⟩⟩⟩⟩
theorem xh{t:Tg}{elt:Ex}{c:Option Ex}(x v:KN)(n:Nat)(env:Pl):OC [t.py nm x] ((Ex.comp elt i it c).py nm v) n env=pure false\/OC [t.py nm x] ((Ex.comp elt i it c).py nm v) n env=pure true:=by
 cases t with
 |var j=>
  refine(?_ :(do return _:SV Bool)=_\/(do return _:SV Bool)=_);generalize (env.blockKind==_&&_&&_&&_)=b;induction b;·exact .inl rfl
  ·exact .inr rfl
 |_=>exact .inl rfl
theorem vS(k:fK κ G)(I:SG κ G C d t)(g:SE κ G C d e)(kc:∀elt i it c,e=.comp elt i it c->SE κ G C d elt/\SE κ G C d it/\∀e,c=U e->ST κ G C d e):SS κ G C d (.a8 t e):=by
 intro a nm gl j A E env J Q H ad s h V R w;refine m7 j λx b f=>?_;induction v:e.uE with
 |false=>exact pW I g x b f (n3 v _ _ _ _) h V R w
 |true=>
  clear j;cases e with
  |comp elt i it c=>refine KS (xh (t:=t) (elt:=elt) (it:=it) (i:=i) (c:=c) (nm:=nm) (sk a 1) (sk a 0) a.pos.line env) (λS=>pW I g x b f S h V R w) λS=>?_;·exact cH (kc _ _ _ _ rfl) λp1 p P=>z6 k I p1 p P b f S h V R w
  |_=>exact aK v
theorem z1{R:V->KI->Prop}{K:List (Int×KI)}(h:eO (λe g=>e.1=g.1/\R e.2 g.2) es K)(k:Int):eO (λe g=>e.1=g.1/\R e.2 g.2) (gf es k) (without K k):=by
 induction h with
 |nil=>exact .nil
 |@cons p q l m H _ i=>
  obtain⟨a,v⟩:=p;obtain⟨b,x⟩:=q;simp only at H;obtain⟨rfl,r⟩:=H;unfold without at i⊢;by_cases c:a=k;·simpa[iC,hn,c] using i
  ·simp only[iC,hn,c,if_false,MI,ne_eq,not_false_eq_true,decide_true,if_true]
   exact .cons ⟨rfl,r⟩ i
theorem vH{R:V->KI->Prop}{P:Lb->Prop}{K:List (List Int×Lb×KI)}(h:eO (λe g=>e.1=g.1/\P g.2.1/\R e.2 g.2.2) es K){k:List Int}(H:k∉K.map (·.1)):gf es k=es:=by
 induction h with
 |nil=>rfl
 |@cons p q l m b _ i=>obtain⟨a,v⟩:=p;simp only[Ln,KM,not_or] at H;simp only at b;have:¬a=k:=λe=>H.1 (hR e b.1);simp only[iC,hn,this,if_false];exact Z (i H.2) rfl
theorem xx{R:V->KI->Prop}{P:Lb->Prop}{K:List (List Int×Lb×KI)}(h:eO (λe g=>e.1=g.1/\P g.2.1/\R e.2 g.2.2) es K)(H:(K.map (·.1)).Nodup){k:List Int}:∀{j:Nat} {p:Lb×KI},K[j]? =U (k,p)->
  eO (λe g=>e.1=g.1/\P g.2.1/\R e.2 g.2.2) (gf es k) (K.eraseIdx j):=by
 induction h with
 |nil=>intro j p e;simp at e
 |@cons p q l m d r i=>
  intro j z e;obtain⟨a,v⟩:=p;obtain⟨b,x,y⟩:=q;simp only at d;simp only[Ln,K9] at H;induction j using MG with
  |zero=>simp only[List.getElem?_cons_zero,ON,Prod.mk.injEq] at e;clear i;obtain⟨rfl,rfl⟩:=e;simp only[iC,hn,d.1,if_true,List.eraseIdx_cons_zero];exact Z (vH r H.1) r
  |succ j=>simp only[Ot] at e;have n:¬a=k:=λc=>H.1 (Lo.mpr ⟨(k,z),Nf e,hR c d.1⟩);simp only[iC,hn,n,if_false,Qu];exact .cons d (i H.2 e)
theorem hh{b c:Type}(f:b->c):∀(l:List b) (j:Nat),(l.map f).eraseIdx j=(l.eraseIdx j).map f
 |[],_=>rfl
 |_::_,0=>rfl
 |a::l,j+1=>by simp only[Ln,Qu,hh f l j]
theorem Aq{K:Type}[DecidableEq K]{prog:L6}{w:MP}{knd:RQ prog w K}{xs:List (K×Lb×KI)}{k:K}{Q:Unit->K2->Prop}(u:knd.room A.in1)(h:knd.is s.heap k b)(m:s.heap.DictOfH knd a xs)(H:(Pj xs k).isSome=true)
  (q:∀j p h' t,xs[j]? =U (k,p)->h'.DictOfH knd a (xs.eraseIdx j)->MC a s.heap h'->Q () {s with heap:=h',toks:=t})(hsz:xs.length<=LG):KV (K5 prog w) A (delItem (.ref a) (.ref b)) Q E s:=by
 refine uJ (id m) λo es ep c C hd e S n=>Sf m.typeIs rfl Nd (My Nd m.typeIs PJ ?_ (PC _ _));unfold Builtin.«dict.__delitem__»;refine KA ?_;unfold Tl;refine KA (Ru m.typeIs ((KL ((KA ?_):KV _ _ (PP a (.ref b)>>=_) _ _ s)):KV _ _ (pure (Mu a,Mu b)) _ _ s));unfold PP;refine LJ (KA (knd.pyHash u h (KA (wpAny_dictFind_heap (s:={s with toks:=s.toks+knd.draws k}) u h c hd e S n ?_ ?_))))
 ·intro d
  replace H:=(atKey_none_of_get d)▸H;exact aK H
 ·intro j p J
  refine KA (Ow (s:={s with toks:=s.toks+knd.draws k}) c hd (Z (entry_at e j) (Z J ?_)));have f:es.size<=LG:=Z (Tc e) hsz;refine KA (wpAny_updateDictKeys (hz:=f) (s:={s with toks:=s.toks+knd.draws k}) c hd (KL (KA (Ov (KL ⟨.none,rfl,q j p _ _ J ⟨_,_,ep+1,LY _ c (Obj.isFreed_of_dict (Obj.data_mapDictKeys hd _)),C.mapDictKeys _,Obj.data_mapDictKeys hd _,?_,λx X=>knd.keeps (S x (List.mem_of_mem_eraseIdx X)) c hd (Mj ..),?_⟩ (Mj ..)⟩)))))
  ·have lt:j<es.size:=by exact Z (Tc e) ((LC.mp J).1)
   simp only[Oi,lt,dite_true,Qz,e,hh]
  ·simp only[<-hh]
   exact n.sublist (List.eraseIdx_sublist _ _)
theorem Ax(KO:fK κ G)(hA:cj d A)(R:bf κ H ad s){c:V}{Q:Hp->Prop}(h:z4 H c k Q)(X:aJ κ H ad s.heap c x)(F:aJ κ H ad s.heap k y){P:K2->Prop}
  (q:∀H' s',Q H'->bf κ H' ad s'->Step dD ad H s.heap ad H' s'.heap->P s'):KV (K5 κ.prog κ.w) A (delItem x y) (λ_ s'=>P s') E s:=by
 obtain⟨r,hr,h⟩:=aQ h;obtain⟨o,B,h⟩:=aQ h;rw[uf hr] at X;obtain⟨rfl,_⟩:=X;induction o with
 |dI es=>
  obtain⟨i,I,n,hz,h⟩:=aQ h;rw[c2 I] at F;obtain⟨u,rfl⟩:=F;obtain⟨K,D,f⟩:=R.obj _ _ B;have N:(NW K i).isSome=true:=by
   refine KS (gd (f:=id) (λ_ _ e=>e) f i) (λb=>ay b λe _=>?_) λg=>cR g λv x e J _=>?_;·rw[e] at n;exact aK n
   ·refine Z (show NW K i=U x from J) ?_;rfl
  refine Sf D.typeIs rfl Nd (PT Nd D.typeIs PJ (PC _ _) (meets_dict_delitem_pairs (Mq κ.prog κ.w) (ad.f r) (Nq _ _ _ _))
   ⟨K,D,by refine hR f.length ?_;exact dy hz,N,λh' C L=>?_⟩);refine ay (i' (o:=.dI (gf es i)) R (bx B) L (jg C).2 (λM=>⟨_,C,(z1 f i).bv λ_ _ p=>⟨p.1,p.2.aL M⟩⟩) (s.toks+1)) λT S=>?_;exact q _ _ h T S
 |dP es=>
  obtain⟨W,hk,n,hz,h⟩:=aQ h;refine gc (kL hk F) λka m ik I=>?_;subst m;obtain⟨K,D,f⟩:=R.obj _ _ B;have N:(Pj K W).isSome=true:=by
   refine KS (hN f W) (λw=>ay w λe _=>?_) λz=>rv z λv a x e J _=>?_;·rw[e] at n;exact aK n
   ·refine Z J ?_;rfl
  refine Aq (i7 (KU (LO (by decide) _) (u5 hA))) I D N (λj p h' t hj C L=>?_) (hR f.length (dy hz));refine ay (i' (o:=.dP (gf es W)) R (bx B) L (hp C).2 (λM=>⟨_,C,(xx f (hp D).1 hj (P:=jD H ad)).bv λ_ _ p=>⟨p.1,⟨λl=>p.2.1.1 ((Hp.gg (bx B)).mp l),p.2.1.2⟩,p.2.2.aL M⟩⟩) t) λT S=>?_;exact q _ _ h T S
 |_=>exact h.elim
theorem ui(K:fK κ G)(I:SE κ G C d e)(l:SE κ G C d i):SS κ G C d (.mB e i):=by intro x nm gl m A E env J Q H ad s j V R W;refine ay (bt m) λn t=>(?_ :KV _ A (exec (.Delete [.Subscript _ _ _] _) env) _ E s);simp only[arm_exec_Delete,arm_deleteEach_cons,arm_deleteEach_nil,arm_delete_Subscript];refine KA (ML (KA (KA (KA (K0 (I _ nm gl n A E env J _ H ad s j V.toEnvR R W) (λov g p=>?_) λ_ _ y=>y)))));obtain⟨T2,T3,o,q,u,a,b⟩:=p;have v:=V.step b a.au;refine KA (LJ (K0 (l _ nm gl t A E env J _ T3 T2 g j v.toEnvR a q) (λz T4 p=>?_) λ_ _ y=>y));obtain⟨T5,T7,w,q,rw,r,S⟩:=p;exact KA (ML (KA (LJ (Ax K j r q (u.step S r.au) rw λh k q c f=>QX (KL (KL ⟨T5,h,J,.next,q,rfl,(v.step S r.au).step f c.au,c,((b.trans S a.au).trans f r.au).fx⟩))))))
theorem Fi{k:DK}(C:k.ok nm=true)(V:EnvR κ nm gl env J H ad s.heap)(R:bf κ H ad s){v:ai.V}(h:k.val J=U v):KV M A (Nz (k.py nm x) env) (a' κ dD ad H s.heap (λw H'=>w=v/\H'=H)) E s:=by
 induction k with
 |str t=>
  (replace h:=KC h;subst h)
  exact Sh (a'.hM R ⟨rfl,rfl⟩ ⟨_,rfl⟩)
 |var i=>obtain⟨l,g⟩:=bt C;refine ay (hw g) λe j=>KS (V.var _ _ (beq_iff_eq.mp l)) (λr=>ay r λk f=>cR (f v h) λm y n d q=>OW (RM V.kind k n d (a'.c0 R ⟨rfl,rfl⟩ q)) e) λa=>ay a λk b=>lf b λc C I _ f=>?_;·exact aD (f v h) λy d q=>KS k (λk=>OW (R6 V.kind k C d (a'.c0 R ⟨rfl,rfl⟩ q)) e) λk=>OW (R5 V.kind k C d (a'.c0 R ⟨rfl,rfl⟩ q) j) e
inductive Hf(κ:dz)(ad:Ad)(H:Hp)(h:Heap)(kv:List V)(Q:List V->Hp->Prop)(ps:List (KI×KI))(s:K2):Prop
 |mk (ad':Ad) (H':Hp) (vals:List V) (q:Q vals H') (r:aF κ H' ad' s.heap kv (ps.map (·.1))) (v:aF κ H' ad' s.heap vals (ps.map (·.2))) (R:bf κ H' ad' s) (S:Step dD ad H h ad' H' s.heap)
theorem yW{vs:List Ex}(u:∀m∈vs,SE κ G C d m):∀{K:List DK} {xs ys:List KN} {pos:P9},K.all (DK.ok nm)=true->Ex.hO nm gl vs ys=true->K.length=vs.length->∀{kv:List V},DK.vals J K=U kv->
  ∀{Q:List V->Hp->Prop} {H:Hp} {ad:Ad} {s:K2},cj d A->EnvR κ nm gl env J H ad s.heap->bf κ H ad s->Ex.bh G C vs J Q H->
  KV (K5 κ.prog κ.w) A (evalPairs (pairTrees (DK.cP nm K xs) (Ex.cP nm vs ys) env pos)) (Hf κ ad H s.heap kv Q) E s:=by
 induction vs with
 |nil=>
  intro K xs ys pos j x l kv h Q H ad s n V R W;clear j;cases K with
  |cons _ _=>cases l
  |nil=>(replace h:=KC h;subst h);exact pairTrees_nil_walk ⟨ad,H,[],W,rfl,rfl,R,Step.refl⟩
 |cons v vs I=>
  intro K xs ys pos j x l kv h Q H ad s n V R W;cases K with
  |nil=>cases l
  |cons k K=>refine ay (all_cons j) λD F=>ay (bt x) λd1 L=>?_;obtain⟨X,z,h⟩:=bG h;obtain⟨Z,M,rfl⟩:=fz h;refine pairTrees_cons_walk (K0 (Fi D V R z) (λkx g p=>?_) λ_ _ y=>y);clear h z R;clear h;obtain⟨T2,T3,_,⟨rfl,rfl⟩,N,a,e⟩:=p;have f:=V.step e a.au;refine K0 (u v KJ _ nm gl d1 A E env J _ _ T2 g n f a W) (λvx T4 p=>?_) λ_ _ y=>y;obtain⟨T5,T7,w,q,P,r,S⟩:=p;refine K0 (I (λm T=>u m (KP _ T)) F L (O8 l) M n (f.step S r.au) r q) (λps B p=>?_) λ_ _ y=>y;obtain⟨Ua,i,vals,q,o,t,b,c⟩:=p;exact⟨Ua,i,w::vals,q,⟨_,_,rfl,(N.step S r.au).step c b.au,o⟩,⟨_,_,rfl,P.step c b.au,t⟩,b,(e.trans S a.au).trans c r.au⟩
inductive I4(κ:dz)(H:Hp)(ad:Ad)(h:Heap)(vals:List V)(l:List String)(ps:List (KI×KI)):Prop
 |mk (k:List (KR×KI)) (c:Carries (L5 κ.prog κ.w) ps k) (f:eO (λe f=>KD e.1=f.1/\aJ κ H ad h e.2 f.2) (l.zip vals) k) (m:k.map (·.1)=l.map KD)
theorem uF{vals:List V}:∀{kv:List V} {l:List String} {ps:List (KI×KI)},lp kv=U l->l.length=vals.length->aF κ H ad h kv (ps.map (·.1))->aF κ H ad h vals (ps.map (·.2))->I4 κ H ad h vals l ps:=by
 induction vals with
 |nil=>
  intro kv l ps e L R a;cases ps with
  |cons _ _=>cases a
  |nil=>
   cases l with
   |nil=>exact⟨[],trivial,.nil,rfl⟩
   |cons _ _=>cases L
 |cons v vals i=>
  intro kv l ps e L R a;obtain⟨y,q,E,g,a⟩:=a;cases ps with
  |nil=>cases E
  |cons p ps=>
   cases kv with
   |nil=>cases R
   |cons k kv=>obtain⟨t,j,e⟩:=bG e;obtain⟨s,b,rfl⟩:=fz e;obtain⟨x,r,d,X,R⟩:=R;rw[ru j] at X;obtain⟨u,rfl⟩:=X;injection d with d n;injection E with E o;obtain⟨px,py⟩:=p;obtain rfl:px=_:=d;obtain rfl:py=_:=E;subst n o;obtain⟨K,c,f,m⟩:=i b (O8 L) R a;exact⟨(_,_)::K,⟨OX _ _ _ _,rfl,c⟩,.cons ⟨rfl,g⟩ f,congrArg (_::·) m⟩
theorem qq(R:bf κ H ad s){ps:List (KI×KI)}{kv vals:List V}{Q:PV}(f:D=s.heap.objs.size){K:Type}[DecidableEq K]{knd:Sm κ.prog κ.w K}{k:List (K×KI)}{o:Obj}{e:Nat}{t:Int}{T:Nat}
  (a:bf κ T3 T2 T4)(S:Step dD (ad.a9 D) H (s.heap.push {cls:=.type "dict",data:=.dict #[]}) T2 T3 T4.heap)(h:MC D T4.heap h')(g:h'.DictOf knd D k)
  (i:∀ad',(∀v x,aJ κ T3 T2 T4.heap v x->aJ κ T3 ad' h' v x)->ik κ T3 ad' h' D o)(q:Q (.ref ⟨e,t,T3.n⟩) (T3.new e t o)):a' κ dD ad H s.heap Q (.ref D) {T4 with heap:=h',toks:=T}:=by
 have fr:s.heap.get? D=KF:=aW _ (KQ f.symm);have z:T2.z D:=Z S.z (.inl rfl);have b:=a.tU z h.extBut ((jg g).2:∃o,h'.get? D=U o) T;have d:Step dD (ad.a9 D) H s.heap (ad.a9 D) H (s.heap.push {cls:=.type "dict",data:=.dict #[]}):=Step.keeps (bO _ _) λr j=>R.cZ ⟨r,j,rfl⟩;have c:=(d.trans S (R.au:bS H)).hY fr h.extBut (a.pM z);have E:=c.mK;have C:∀v x,aJ κ T3 T2 T4.heap v x->aJ κ T3 (Ad.a9 ⟨T2.f,ad.z⟩ D) h' v x:=λv x r=>by have:=r.aL (dj z h.extBut);rwa[E] at this
 rw[E] at b;exact n2 b (f' R fr:¬ad.z D) (ei R fr) (i _ C) c.HK fr q
theorem uG(nm:Nm):∀(K:List DK) (xs:List KN),(DK.cP nm K xs).all (·.isSome)=true/\(DK.cP nm K xs).length=K.length
 |[],_=>⟨rfl,rfl⟩
 |k::K,xs=>⟨(uG nm K xs.tail).1,congrArg (·+1) (uG nm K xs.tail).2⟩
theorem qr(nm:Nm):∀(m:List Ex) (es:List KN),(Ex.cP nm m es).length=m.length
 |[],_=>rfl
 |_::m,es=>congrArg (·+1) (qr nm m es.tail)
theorem ny{k:V}{kv vals:List V}(h:dF (k::kv) vals Q H):(∃i v K t,k=.int i/\kv=[]/\vals=[v]/\Q (.ref ⟨K,t,H.n⟩) (H.new K t (.dI [(i,v)])))\/
  (bB (lp (k::kv)) λl=>l.Nodup/\l.length=vals.length/\l.length<=15/\∃k t,Q (.ref ⟨k,t,H.n⟩) (H.new k t (.dS (l.zip vals)))):=by
 cases k with
 |int i=>
  induction kv using Lx with
  |nil=>obtain⟨v,a,K,t,q⟩:=aQ h;exact .inl ⟨i,v,K,t,rfl,rfl,mZ a,q⟩
  |cons=>exact h.elim
 |_=>exact .inr h
theorem nS{prog:L6}{w:MP}{K:Type}[DecidableEq K]{knd:Sm prog w K}{T2:Ad}{T3:Hp}{a:Heap}(R:bf κ H (ad.a9 s.heap.objs.size) {s with heap:=s.heap.push {cls:=.type "dict",data:=.dict #[]}})
  (S:Step dD (ad.a9 s.heap.objs.size) H (s.heap.push {cls:=.type "dict",data:=.dict #[]}) T2 T3 a):a.DictOf knd s.heap.objs.size []:=by
 exact sp (O9 (knd:=knd) s.heap) λo es ep g r=>⟨o,es,ep,S.keep _ _ g (R.zf _ (.inl rfl)) λf=>f.elim,r⟩
theorem tv(R:bf κ H ad s)(h:dF [] [] Q H){pos:P9}:KV (K5 κ.prog κ.w) A (Nz (.Dict [] [] pos) env) (a' κ dD ad H s.heap Q) E s:=by have fr:s.heap.get? s.heap.objs.size=KF:=aW _ (KX _);refine wpAny_Dict_empty ?_;have k:=bO s.heap {cls:=.type "dict",data:=.dict #[]};exact KS h (λr=>g9 r λK t q=>m2 (s':={s with heap:=s.heap.push {cls:=.type "dict",data:=.dict #[]}}) R k rfl rfl fr ⟨_,KY _ rfl⟩ (x:=.dI []) ⟨[],O9 _,.nil⟩ q) λa=>KS a (λb=>g9 b λK t q=>m2 (s':={s with heap:=s.heap.push {cls:=.type "dict",data:=.dict #[]}}) R k rfl rfl fr ⟨_,KY _ rfl⟩ (x:=.dP []) ⟨[],Qm _,.nil⟩ q) λc=>g9 c λK t q=>m2 (s':={s with heap:=s.heap.push {cls:=.type "dict",data:=.dict #[]}}) R k rfl rfl fr ⟨_,KY _ rfl⟩ (x:=.dN []) ⟨[],Qm _,.nil⟩ q
theorem vQ{ks:List DK}{vs:List Ex}(ih:∀m∈vs,SE κ G C d m):SE κ G C d (.dict ks vs):=by
 intro e nm gl hc A E env J Q H ad s hA V R hw;obtain⟨kv,K,W⟩:=aQ hw;refine th hc λh1 h2 L n=>?_;replace L:=of_decide_eq_true L;replace n:=of_decide_eq_true n;clear hw hc;cases ks with
 |nil=>
  clear n h2 ih;cases vs with
  |cons _ _=>exact(nomatch L)
  |nil=>(replace K:=KC K;subst K);exact tv R W
 |cons P v=>
  have fr:s.heap.get? s.heap.objs.size=KF:=aW _ (KX _);have k:=bO s.heap {cls:=.type "dict",data:=.dict #[]};have g:bf κ H (ad.a9 s.heap.objs.size) {s with heap:=s.heap.push {cls:=.type "dict",data:=.dict #[]}}:=R.a9 k rfl rfl fr ⟨_,KY _ rfl⟩;have T:=yW (E:=E) (xs:=sR e) (pos:=e.pos) ih h1 h2 L K hA (s:={s with heap:=s.heap.push {cls:=.type "dict",data:=.dict #[]}}) (V.a9 (I:=s.heap.objs.size) k fr) g W;refine ay (uG nm (P::v) (sR e)) λha B=>?_;have l1:(DK.cP nm (P::v) (sR e)).length=(Ex.cP nm vs (cu e)).length:=by simp only[B,qr,L]
  have l2:(DK.cP nm (P::v) (sR e)).length<=15:=Z B (Z L n);obtain⟨F,e1,K⟩:=bG K;obtain⟨kr,e2,rfl⟩:=fz K;by_cases ci:∃i,F=.int i
  ·clear e1 K;obtain⟨i,rfl⟩:=ci
   refine S9 (knd:=Mq κ.prog κ.w) ha l1 (RF _ _) l2 (K0 T (λps M p=>?_) λ_ _ y=>y);obtain⟨T2,T3,vals,q,X,rv,h,S⟩:=p;clear K T W e2;rcases ny q with⟨j,w,kk,t,e,rfl,rfl,q⟩ |q
   ·(injection e with e;subst e)
    obtain⟨x,r,e,⟨u,rfl⟩,rfl⟩:=X;obtain⟨y,r',e',ry,rfl⟩:=rv;cases ps with
    |nil=>exact(nomatch e)
    |cons p ps=>obtain⟨px,py⟩:=p;injection e with e3 e4;injection e' with e5 e6;clear e6;obtain rfl:=Q1.mp e4;obtain rfl:px=_:=e3;obtain rfl:py=_:=e5;exact⟨[(i,py)],⟨Nq _ _ _ _,rfl,trivial⟩,nS g S,λh' D hs=>qq (kv:=[]) (vals:=[w]) (ps:=[]) R rfl h S hs D (o:=.dI [(i,w)]) (λad' cy=>⟨_,D,.cons ⟨rfl,cy _ _ ry⟩ .nil⟩) q⟩
   ·exact q.elim
  ·refine S9 (knd:=L5 κ.prog κ.w) ha l1 (RF _ _) l2 (K0 T (λps M p=>?_) λ_ _ y=>y)
   obtain⟨T2,T3,vals,q,X,rv,h,S⟩:=p;refine KS (ny q) (λz=>qV z λj w kk t e _=>absurd ⟨j,e⟩ ci) λq=>?_
   ·obtain⟨l,aa,nd,cQ,_,kk,t,q⟩:=aQ q
    obtain⟨N,c,f,m⟩:=uF aa cQ X rv;have ac:(N.map (·.1)).Nodup:=by exact Z m (S5 _ (λa b ne e=>ne (cr _ _ e)) nd)
    refine⟨N,c,nS g S,λh' D hs=>?_⟩;replace D:=(merged_nil_of_nodup _ ac)▸D;exact qq (kv:=F::kr) (vals:=vals) (ps:=[]) R rfl h S hs D (o:=.dS (l.zip vals)) (λad' cy=>⟨_,D,f.bv λ_ _ p=>⟨p.1,cy _ _ p.2⟩⟩) q
theorem fQ(k:fK κ G)(V:EnvR κ nm gl env J H ad s.heap)(R:bf κ H ad s)(h:gl.contains x=true)(X:(x==("__debug__":KR))=false){y:KI}(a:κ.mg x=KF)(b:κ.mb x=U y){pos:P9}{P:KI->K2->Prop}(q:P y s):
  KV (K5 κ.prog κ.w) A (Nz (.Name x pos) env) P E s:=
 N8 V.kind (V.c5 _ h) (Calls.loadGlobal_builtin (Z V.wB (k.g.keeps R.base)) a (Z V.blt (k.b.keeps R.base)) b q) X
def ph(κ:dz)(d:Nat)(b:BI):Prop:=∀(vs:List V) (xs:List KI) (Q:PV) (H:Hp) (ad:Ad) (s:K2) (A:NA) (E:KI->K2->Prop),cj d A->bf κ H ad s->aF κ H ad s.heap vs xs->qI b vs Q H->KV (K5 κ.prog κ.w) A (call b.val xs) (a' κ dD ad H s.heap Q) E s
theorem mP{v:V}(R:aF κ H ad h [v] xs):∃x,xs=[x]/\aJ κ H ad h v x:=by obtain⟨x,r,rfl,R,e⟩:=R;exact⟨x,congrArg _ e,R⟩
theorem De{v w:V}(R:aF κ H ad h [v,w] xs):∃x y,xs=[x,y]/\aJ κ H ad h v x/\aJ κ H ad h w y:=by obtain⟨x,r,rfl,R,a⟩:=R;refine aD (mP a) λy e z=>?_;clear a;subst e;exact⟨x,y,rfl,R,z⟩
theorem oH{p:V->Prop}(h:bB (mf vs) p)(r:aF κ H ad s.heap vs xs):∃v x,xs=[x]/\aJ κ H ad s.heap v x/\p v:=by obtain⟨v,a,h⟩:=aQ h;rw[mZ a] at r;exact aD (mP r) λx e r=>⟨v,x,e,r,h⟩
theorem uT{p:V×V->Prop}(h:bB (x2 vs) p)(r:aF κ H ad s.heap vs xs):∃v w x y,xs=[x,y]/\aJ κ H ad s.heap v x/\aJ κ H ad s.heap w y/\p (v,w):=by obtain⟨v,a,h⟩:=aQ h;rw[An a] at r;exact cR (De r) λx y e r R=>⟨_,_,x,y,e,r,R,h⟩
theorem Fc:ph κ d .cQ:=by intro vs xs Q H ad s A E b R r h;obtain⟨v,x,rfl,r,h⟩:=oH h r;obtain⟨ys,y,hz,q⟩:=aQ h;obtain⟨a,w,n,rfl,g,z,f⟩:=dc R y r;exact Calls.call_len_list ⟨_,g,rfl,n,rfl⟩ (by have:=NO;lia) (a'.hM R q ⟨_,Z (f.length:ys.length=w.size) rfl⟩)
theorem a'.Gs(R:bf κ H ad s){Q:PV}{v:V}{x:KI}(k:∀b o,s.heap.get? b=U o->h'.get? b=U o)(t:Nat)(q:Q v H)(e:aJ κ H ad s.heap v x):a' κ X ad H s.heap Q x {s with heap:=h',toks:=t}:=
 ⟨ad,H,v,q,e.aL ((bf.cX (X:=dD) (s':={s with heap:=h'}) R k).aL R.au),R.keeps k rfl rfl,bf.cX (s':={s with heap:=h'}) R k⟩
theorem Fj:ph κ d .int:=by intro vs xs Q H ad s A E a R r h;obtain⟨v,x,rfl,r,h⟩:=oH h r;obtain⟨i,I,h⟩:=aQ h;rw[c2 I] at r;obtain⟨t,rfl⟩:=r;exact call_int_int (a'.c0 R h ⟨_,rfl⟩)
theorem Fv:ph κ d .min:=by
 intro vs xs Q H ad s A E a R r h;refine tP (uT h r) λv w x y e r b h=>?_;subst e;obtain⟨i,I,h⟩:=aQ h;obtain⟨j,J,h⟩:=aQ h;obtain rfl:v=_:=c2 I;clear I h;obtain rfl:w=_:=c2 J;obtain⟨t,rfl⟩:=r;clear r;obtain⟨u,rfl⟩:=b;refine min_two_ints a.handled λh' tk k=>a'.Gs R k tk h ?_;by_cases c:j<i;·exact Z (if_pos c) (Z (if_pos c) ⟨_,rfl⟩)
 ·exact Z (if_neg c) (Z (if_neg c) ⟨_,rfl⟩)
theorem FS:ph κ d .max:=by
 intro vs xs Q H ad s A E a R r h;refine tP (uT h r) λv w x y e r b h=>?_;subst e;obtain⟨i,I,h⟩:=aQ h;obtain⟨j,J,h⟩:=aQ h;obtain rfl:v=_:=c2 I;clear I h;obtain rfl:w=_:=c2 J;obtain⟨t,rfl⟩:=r;clear r;obtain⟨u,rfl⟩:=b;refine max_two_ints a.handled λh' tk k=>a'.Gs R k tk h ?_;by_cases c:i<j;·exact Z (if_pos c) (Z (if_pos c) ⟨_,rfl⟩)
 ·exact Z (if_neg c) (Z (if_neg c) ⟨_,rfl⟩)
theorem zy:ph κ d .range:=by intro vs xs Q H ad s A E c R r h;obtain⟨v,x,rfl,r,h⟩:=oH h r;obtain⟨n,N,a,b,h⟩:=aQ h;rw[c2 N] at r;obtain⟨t,rfl⟩:=r;refine call_range_1 ?_;have k:=bO s.heap {cls:=.type "range",data:=.fields #[.int 0 s.toks,.int n t,.int 1 (s.toks+1)]};exact⟨ad,H,_,h,⟨_,_,_,_,rfl,⟨v0 R (KX _),f' R (aW s.heap (KX s.heap.objs.size))⟩,KY _ rfl,a,b⟩,R.keeps k rfl rfl,bf.cX (s':={s with heap:=_}) R k⟩
theorem AB:ph κ d .tuple:=by
 intro vs xs Q H ad s A E j R X h;refine cR (oH h X) λv x c r h=>?_;subst c;have io:(bB (cb H v) λxs=>xs.length<=aN/\Q (.aA xs) H)->KV (K5 κ.prog κ.w) A (call (.type "tuple") [x]) (a' κ dD ad H s.heap Q) E s:=λh=>by
  obtain⟨ys,y,hz,q⟩:=aQ h;clear X;obtain⟨a,w,n,rfl,g,z,f⟩:=dc R y r;refine call_tuple_list ⟨_,g,rfl,n,rfl⟩ (λh' k=>?_) z;have fr:s.heap.get? h'.objs.size=KF:=by
   induction e:s.heap.get? h'.objs.size with
   |none=>rfl
   |some o=>have:=k _ _ e;rw[aW _ (KX _)] at this;exact al this
  exact n4 (s':={s with heap:=h'.push {cls:=.type "tuple",data:=.seq w}}) R (λb o e=>bO _ _ _ _ (k b o e)) rfl rfl fr (KY _ rfl) z f q
 cases v with
 |aA ys=>clear io;obtain⟨a,w,n,rfl,i,g,z,f⟩:=id r;exact call_tuple_same ⟨_,g,rfl,n,rfl⟩ (a'.c0 R h r)
 |_=>exact io h
theorem oF:∀(vs:List V) (xs:List KI) (Q:PV) (H:Hp) (ad:Ad) (s:K2) (A:NA) (E:KI->K2->Prop),cj d A->bf κ H ad s->aF κ H ad s.heap vs xs->(∃v ys,vs=[v]/\cb H v=U ys/\newList ys Q H)->KV (K5 κ.prog κ.w) A (call (.type "list") xs) (a' κ dD ad H s.heap Q) E s:=by intro vs xs Q H ad s A E i R r h;refine cR h λv ys e y q=>?_;clear h;subst e;refine aD (mP r) λx b c=>?_;subst b;clear r;obtain⟨a,w,n,rfl,g,z,f⟩:=dc R y c;exact call_list_seq a (.inl rfl) g rfl rfl (λh' c' k g'=>ej (s':={s with heap:=h'}) R k rfl rfl (aW _ (KX _)) g' z f q) z
theorem BI.HM(b:BI):(∃T,b.val=.type T)\/(∃id,b.val=.builtin id):=by
 induction b
 all_goals first |exact .inl ⟨_,rfl⟩ |exact .inr ⟨_,rfl⟩
theorem Df(k:fK κ G)(ok:ph κ d b)(i:pp κ G C d es){pos:P9}(g:gl.contains (KD b.name)=true)(hd:fF (KD b.name)=true)(c:Ex.hO nm gl es xs=true)
  (a:cj d A)(V:EnvR κ nm gl env J H ad s.heap)(R:bf κ H ad s){Q:PV}(w:Ex.bh G C es J (λvs h=>qI b vs Q h) H):KV (K5 κ.prog κ.w) A (Nz (.Call (.Name (KD b.name) p) (Ex.cP nm es xs) [] pos) env) (a' κ dD ad H s.heap Q) E s:=by
 refine ay (k.Bb b) λe f=>?_;have cY:∀ad' H' s' vs xs,qI b vs Q H'->aF κ H' ad' s'.heap vs xs->bf κ H' ad' s'->Step dD ad H s.heap ad' H' s'.heap->KV (K5 κ.prog κ.w) A (call b.val xs) (a' κ dD ad H s.heap Q) E s':=λad' H' s' vs xs q x r S=>K0 (ok vs xs Q H' ad' s' A E a r x q) (λ_ _ p=>a'.trans S r.au p) λ_ _ y=>y;refine Nj (fQ k V R g (hw hd).1 e f ?_);rcases b.HM with⟨T,t⟩ |⟨T,t⟩
 ·rw[t] at cY⊢
  exact i2 i c a V R w cY
 ·rw[t] at cY⊢
  exact dt i c a V R w cY
end
section
set_option backward.match.sparseCases true
variable {A:Around} {h:Heap} {a:Addr} {ep:Nat}
theorem xY{Q:Bool->K2->Prop}(t:s.TypeIs (.ref a) "dict")(q:Q false s):KV (K5 prog w) A (MW (.ref a)) Q E s:=by
 unfold MW;refine KA (O4 t PySem.F.slot_dict_len.lookup ?_);generalize H:("dict.__len__":String)=i
 wp_delta
 refine Z (show splitId i=U ("dict","__len__") from by subst H;decide+kernel) ?_;subst H;refine KA (OJ (T:="dict") (b:=true) t (by refine Z (isSubtype_type _ _) ?_;kernel_rfl) ?_);exact O5 (λh=>absurd h (by decide)) (λ_=>O5 (λ_=>KA (OV t (KL q))) (λh=>absurd (by decide+kernel) h))
theorem Walks.I8(j:A.handled=none)(I a:Lb)(c:a≠I)(es:Array Mt)(ep:Nat):
  Walks prog w A I [I,a] [I] es.size (λi v=>∃e,es[i]? =U e/\v=e.key) (λi h=>h.IsKeyIter I a i es.size ep/\gO h a es ep) where
 sub:=λb H=>by simp at H;simp[H]
 frame:=λ_ _ _ st k=>⟨st.1.at λo e=>k I (by simp) o e,let ⟨o,g,r⟩:=st.2;⟨o,k a (by simp) o g,r⟩⟩
 item:=λi s Q E f st q=>by exact te st.1 st.2 (Mp f) λh' t S=>q _ h' s.toks ⟨_,Mp f,rfl⟩ ⟨t,let ⟨o,g,r⟩:=st.2;⟨o,S.extBut _ _ c g,r⟩⟩ λb o H e=>S.extBut b o (λh=>H (by simp[h])) e
 done:=λs Q E st q=>wZ j st.1 st.2 (KX _) λh' d=>q h' s.toks λb o H e=>d b o (λh=>H (by simp[h])) e
 self:=λ_ _ _ _ st q=>RK st.1 q
theorem vK{es:Array Mt}{acc:Array KI}(h:ItemsOf (λi v=>∃e,es[i]? =U e/\v=e.key) acc es.size):acc.toList=es.toList.map (·.key):=by
 refine RE (by simpa using h.1) λi a b=>aD (h.2 i acc[i] (Mp (by simpa using a))) λe H V=>?_;have:i<es.size:=by simpa using b
 rw[Mp this] at H
 (replace H:=KC H;subst H)
 simpa using V
theorem lN{R:Result->K2->Prop}(z:A.handled=KF)(hd:(a==NJ)=false)(k:gO s.heap a es ep)(N:es.size<=LG)(S:Lb)(res:KI)(i:Nat)(q:s.heap.get? S=U {cls:=.type "list",data:=.seq #[] i})
  (hR:∀h' tk c c',(∀b o,b≠S->s.heap.get? b=U o->h'.get? b=U o)->h'.get? S=U {cls:=.type "list",dict:=KF,data:=.seq c c',slots:=#[]}->
   c.toList=es.toList.map (·.key)->R (.ok (.ret res)) {s with heap:=h',toks:=tk}):
  KV (K5 prog w) A.in1 (LQ (.ref S) (.ref a) res)
   (λcY s'=>match cY with |.done f=>R (.ok f) s' |.again c'=>c'.quiet=true/\OY (K5 prog w) A c' R s') (λe s'=>R (.error e) s') s:=by
 refine gc (id k) λu G x j=>?_;have l:S≠a:=λe=>by
  simp only[<-e,q] at G
  (replace G:=KC G;clear x;subst G)
  cases j
 have I:S≠s.heap.objs.size:=MS (Lh q:S<s.heap.objs.size);have key:∀(h:Heap) (C tk:Nat),h.IsKeyIter s.heap.objs.size a 0 es.size ep->gO h a es ep->(∀b o,b≠S->s.heap.get? b=U o->h.get? b=U o)->
   h.get? S=U {cls:=.type "list",data:=.seq #[] C}->OY (K5 prog w) A (.builtin "list.extend.loop" ⟨[.ref S,.ref s.heap.objs.size,res],[]⟩) R {s with heap:=h,toks:=tk}:=by
  intro h C tk v m K H;exact codeAny_extend_loopS ((Walks.I8 (prog:=prog) (w:=w) (A:=A.in1) z s.heap.objs.size a (MS (Lh G):a≠s.heap.objs.size) es ep).toS) N S (λk=>by simp[I,l] at k) res es.size 0 _ #[] C rfl (K3 _) ⟨v,m⟩ H (ItemsOf.nil _) λs' c c' k y p=>Z (Moved.eq_with k) (hR s'.heap s'.toks c c' (λb o B e=>k.heap b o (λM=>KS (KM.mp M) (λE=>B E) λM=>absurd (Lh e) (Z (KG.mp M) (M5 _))) (K b o B e)) y (vK p))
 unfold LQ;refine KA (OV (T:="dict") (⟨u,G,x.1⟩:s.TypeIs (.ref a) "dict") ?_);have D:M' (.ref S) (.ref a)=false:=by simp[M',l]
 simp only[D,(by decide:(MQ "dict"==MQ "list")=false),(by decide:(MQ "dict"==MQ "tuple")=false),Sw,LX,if_false];refine KA (ou hd k (KA (LJ (xY ⟨u,KT _ G,x.1⟩ ?_))));have t:(s.heap.push {cls:=.type "dict_keyiterator",data:=.fields #[.ref a,.int 0 0,.int es.size 0,.int ep 0]}).IsKeyIter s.heap.objs.size a 0 es.size ep:=
  ⟨_,KY _ rfl,rfl,rfl⟩;have H:=KT {cls:=.type "dict_keyiterator",data:=.fields #[.ref a,.int 0 0,.int es.size 0,.int ep 0]} q;have m:gO (s.heap.push {cls:=.type "dict_keyiterator",data:=.fields #[.ref a,.int 0 0,.int es.size 0,.int ep 0]}) a es ep:=⟨u,KT _ G,x,j⟩;refine O5 (λ_=>KA (Ok (KA ((KA (Nb H rfl ?_)):KV _ _ (OK S (·.push .none)>>=λ_=>OK S (·.pop)) _ _ _)))) (λ_=>KL ⟨OD MM _,key _ i _ t m (λb o _ e=>KT _ e) H⟩);have d:=LY (Obj.mapSeq (·.push L4)) H rfl;refine Nb (hz:=by seq_fits) d rfl ?_;have n:∀b o,b≠S->(s.heap.push {cls:=.type "dict_keyiterator",data:=.fields #[.ref a,.int 0 0,.int es.size 0,.int ep 0]}).get? b=U o->(((s.heap.push {cls:=.type "dict_keyiterator",data:=.fields #[.ref a,.int 0 0,.int es.size 0,.int ep 0]}).update S (Obj.mapSeq (·.push L4))).update S (Obj.mapSeq (·.pop))).get? b=U o:=
  λb o B e=>(L' _ _ (Qg B)).trans ((L' _ _ (Qg B)).trans e);refine KL ⟨OD MM _,key _ _ _ (t.at λo e=>n _ o I.symm e) ?_ (λb o B e=>n b o B (KT _ e)) (LY (Obj.mapSeq (·.pop)) d rfl)⟩;·exact aD m λo g r=>⟨o,n _ o l.symm g,r⟩
theorem xQ{Q:KI->K2->Prop}(i:A.handled=KF)(hd:(a==NJ)=false)(m:gO s.heap a es ep)(h:es.size<=LG)
  (q:∀h' tk c c',(∀b o,s.heap.get? b=U o->h'.get? b=U o)->h'.get? s.heap.objs.size=U {cls:=.type "list",dict:=KF,data:=.seq c c',slots:=#[]}->c.toList=es.toList.map (·.key)->Q (.ref s.heap.objs.size) {s with heap:=h',toks:=tk}):
  KV (K5 prog w) A (call (.type "list") [.ref a]) Q E s:=by
 refine Tv (Q₁:=λobj S=>obj=.ref s.heap.objs.size/\S={s with heap:=s.heap.push {cls:=.type "list",data:=.seq #[]}}) RA (QP _) QQ
  (TN _ ⟨rfl,rfl⟩) λobj S T6=>?_;obtain⟨rfl,rfl⟩:=T6;refine gc (id m) λj G x H=>?_;have f:(s.heap.push {cls:=.type "list",data:=.seq #[]}).get? s.heap.objs.size=U {cls:=.type "list",data:=.seq #[]}:=KY _ rfl;refine⟨⟨_,f,rfl⟩,QF _ _,((KA ?_):KV _ _ (do let u4<-Np (.ref s.heap.objs.size);Py (.ref s.heap.objs.size) (λ_=>#[]);letGo u4.toList.reverse;LQ (.ref s.heap.objs.size) (.ref a) .none) _ _ _)⟩;unfold Np;refine KA (Ma f rfl (KL ((KA (Nb f rfl ?_)):KV _ _ (OK s.heap.objs.size (λ_=>#[])>>=λ_=>letGo (#[]:Array KI).toList.reverse>>=λ_=>LQ (.ref s.heap.objs.size) (.ref a) .none) _ _ _)));have d:∀b o,b≠s.heap.objs.size->(s.heap.push {cls:=.type "list",data:=.seq #[]}).get? b=U o->((s.heap.push {cls:=.type "list",data:=.seq #[]}).update s.heap.objs.size (Obj.mapSeq (λ_=>(#[]:Array KI)))).get? b=U o:=
  λb o B e=>(L' _ _ (Qg B)).trans e;have n:∀{b:Lb} {o:K4},s.heap.get? b=U o->b≠s.heap.objs.size:=λe=>MS (Lh e);exact KA (Ov (lN (A:=A.in1) (ep:=ep) i hd ⟨j,d _ _ (n G) (KT _ G),x,H⟩ h _ .none _ (LY (Obj.mapSeq (λ_=>(#[]:Array KI))) f rfl) λh' tk c c' k g C=>⟨rfl,q h' tk c c' (λb o e=>k b o (n e) (d b o (n e) (KT _ e))) g C⟩))
set_option tactic.hygienic true in
theorem ki{Q:List KI->K2->Prop}(i:A.handled=KF)(hd:(a==NJ)=false)(m:gO s.heap a es ep)(H:es.size<=LG)
  (j:∀h' tk,(∀b o,s.heap.get? b=U o->h'.get? b=U o)->Q (es.toList.map (·.key)) {s with heap:=h',toks:=tk}):KV (K5 prog w) A (collect (.ref a)) Q E s:=by
 unfold collect
 refine KA (wpAny_runValue (O6 PySem.F.entry_proto_collect (Z (NV PySem.F.plain_proto_collect _) ((KA (MV (KL ⟨OD P' _,O6 PySem.F.entry_list_iadd (Z (NV P' _) ((gc (id m) λk G x t=>?_):KV _ A.in1 (LQ (.ref s.heap.objs.size) (.ref a) (.ref s.heap.objs.size)) _ _ _))⟩))):KV _ A.in1 (Qb []>>=λl=>again (.builtin "list.__iadd__" ⟨[l,.ref a],[]⟩)) _ _ s))))
 have p:(s.heap.push {cls:=.type "list",data:=.seq ([]:List KI).toArray}).get? s.heap.objs.size=U {cls:=.type "list",data:=.seq #[] 0}:=KY _ rfl
 refine K0 (lN (prog:=prog) (w:=w) (A:=A) (ep:=ep) (R:=λr s'=>r=.ok (.ret (.ref s.heap.objs.size))/\∃o xs n,s'.heap.get? s.heap.objs.size=U o/\o.data=.seq xs n/\Q xs.toList s') (s:={s with heap:=s.heap.push {cls:=.type "list",data:=.seq ([]:List KI).toArray}})
  i hd ⟨k,KT _ G,x,t⟩ H _ _ 0 p λh' tk C c' K S c=>⟨rfl,_,_,_,S,rfl,Z c (j h' tk λb o e=>K b o ((λe=>MS (Lh e)) e) (KT _ e))⟩) (λcY s' h=>?_) (λe s' h=>absurd h.1 (by simp))
 have done:∀s':K2,(∃o xs n,s'.heap.get? s.heap.objs.size=U o/\o.data=.seq xs n/\Q xs.toList s')->KV (K5 prog w) A (match Mu s.heap.objs.size with
   |Value.ref a=>do
    match(<-load a).data with
     |Data.seq xs _=>pure xs.toList
     |_=>unsupported "internal:collect"
   |_=>unsupported "internal:collect") Q E s':=λs' ⟨o,xs,n,g,D,q⟩=>by
  refine((KA (wpAny_load g ?_)):KV _ A (load s.heap.objs.size>>=_) _ _ _)
  exact Z D (KL q)
 induction cY with
 |done f=>
  obtain⟨e,r⟩:=h
  (injection e with e;subst e)
  exact done s' r
 |again c'=>exact⟨h.1,Og h.2 λr d u=>by obtain⟨rfl,r⟩:=u;exact done d r⟩
end
theorem k8(a:Int):∀l:List Int,(j0 (λa b=>decide (a<=b)) a l).Perm (a::l)
 |[]=>N1 _
 |b::r=>by
  simp only[qj];split;·exact N1 _
  ·exact((k8 a r).cons b).trans (Q3 a b r)
theorem oJ:∀l:List Int,(cG l).Perm l
 |[]=>N1 _
 |a::r=>(k8 a _).trans ((oJ r).cons a)
set_option tactic.hygienic true in
theorem lU(a:Int):∀l:List Int,l.Pairwise (·<=·)->(j0 (λa b=>decide (a<=b)) a l).Pairwise (·<=·)
 |[],_=>by simp[Ac]
 |b::r,h=>by
  simp only[qj]
  simp only[L9] at h
  split
  ·rename_i c
   have c:a<=b:=of_decide_eq_true c
   refine L9.mpr ⟨λx hx=>?_,L9.mpr h⟩
   rcases KM.mp hx with rfl |hx
   ·exact c
   ·exact Mw c (h.1 x hx)
  ·rename_i c
   have c:¬a<=b:=λe=>c (decide_eq_true e)
   refine L9.mpr ⟨λx hx=>?_,lU a r h.2⟩
   rcases KM.mp ((k8 a r).mem_iff.mp hx) with rfl |hx
   ·lia
   ·exact h.1 x hx
theorem kM:∀l:List Int,(cG l).Pairwise (·<=·)
 |[]=>Qa
 |a::r=>lU a _ (kM r)
theorem jx:∀{l m:List Int},l.Perm m->l.Pairwise (·<=·)->m.Pairwise (·<=·)->l=m
 |[],m,p,_,_=>by rw[List.nil_perm] at p;exact p.symm
 |a::l,[],p,_,_=>by have:=p.length_eq;simp at this
 |a::l,b::m,p,h,H=>by
  simp only[L9] at h H;have e:a=b:=by
   have A:b∈a::l:=p.mem_iff.mpr KJ;have B:a∈b::m:=p.mem_iff.mp KJ;refine KS (KM.mp A) (λe=>e.symm) λA=>?_
   ·refine KS (KM.mp B) (λe=>e) λB=>?_
    have:=h.1 b A;have:=H.1 a B;lia
  subst e;exact Z (jx (List.Perm.cons_inv p) h.2 H.2) rfl
section
variable {A:Around} {h:Heap}
theorem mY:∀{l:List Int} {vs:List KI},aF κ H ad h (ae l) vs->P4 vs l
 |[],_,e=>by subst e;exact .nil
 |i::l,vs,e=>by obtain⟨x,r,rfl,⟨t,rfl⟩,e⟩:=e;exact .cons i t (mY e)
theorem sL(e:P4 vs l):aF κ H ad h (ae l) vs:=by
 induction e with
 |nil=>rfl
 |cons n t _ i=>exact⟨_,_,rfl,⟨t,rfl⟩,i⟩
theorem gu(e:P4 vs l):vs.length=l.length:=by
 induction e with
 |nil=>rfl
 |cons _ _ _ i=>exact congrArg (·+1) i
theorem vo{c:Type}{f:c->V}{out:List KI}(p:out.Perm vs):∀{l:List c},aF κ H ad h (l.map f) vs->∃m:List c,m.Perm l/\aF κ H ad h (m.map f) out:=by
 induction p with
 |nil=>intro l e;induction l using Lx with
  |nil=>exact⟨[],N1 _,e⟩
  |cons _ _=>obtain⟨_,_,e,_⟩:=e;cases e
 |cons x p I=>
  intro l e;induction l using Lx with
  |nil=>cases e
  |cons a l=>obtain⟨y,r,e,R,d⟩:=e;obtain⟨rfl,rfl⟩:=Ly e;exact aD (I d) λm P M=>⟨a::m,P.cons a,_,_,rfl,R,M⟩
 |swap x y r=>
  intro l e;induction l using Lx with
  |nil=>cases e
  |cons a l=>
   obtain⟨_,_,e,R,E⟩:=e;obtain⟨rfl,rfl⟩:=Ly e;induction l using Lx with
   |nil=>cases E
   |cons b l=>obtain⟨_,_,e,d,j⟩:=E;obtain⟨rfl,rfl⟩:=Ly e;exact⟨b::a::l,Q3 a b l,_,_,rfl,d,_,_,rfl,R,j⟩
 |trans _ _ k n=>intro l e;exact aD (n e) λm P M=>aD (k M) λo g i=>⟨o,g.trans P,i⟩
theorem GK{vs:Array KI}:ME "list" vs e={cls:=.type "list",data:=.seq vs e}:=rfl
theorem lO{m:List Int}(p:m.Perm l)(q:m.Pairwise (·<=·)):m=cG l:=jx (p.trans (oJ l).symm) q (kM l)
theorem Iu:64<=LG:=by refine Z NO ?_;decide
theorem j8{n m:Nat}(h:m<64)(e:n=m):n<=LG:=Z e (KB (Lq h) Iu)
theorem H9{a:Type}{out:Array a}{n:Nat}(e:out.toList.length=n):out.size=n:=e
theorem n5{ys:List V}(R:bf κ H ad s)(r:aJ κ H ad s.heap v x)(y:cb H v=U ys)(h:vU ys Q H):KV (K5 κ.prog κ.w) A (call (.builtin "sorted") [x]) (a' κ dD ad H s.heap Q) E s:=by refine ay h λb h=>?_;obtain⟨l,L,q⟩:=aQ h;obtain⟨a,w,n,rfl,g,z,f⟩:=dc R y r;rw[jq L] at f b;have i:=mY f;have b:l.length<64:=KU (KQ (KE _).symm) b;refine sorted_ints (vs:=w.toList) ⟨_,g,rfl,n,rfl⟩ i (Z (gu i) b) λout N a1 a2 a3=>?_;obtain⟨e,c⟩:=sortedAll_at s.heap w.toList out;cases lO a2 a3;exact ej (s':={s with heap:=sortedAll s.heap w.toList out}) R (λ_ _=>sortedAll_old) rfl rfl (aW _ (Lv _)) c (j8 b ((gu a1).trans a2.length_eq)) (xs:=ae (cG l)) (sL a1) q
theorem B8{l:List (List Int×V)}:∀{u:List KI},(∀e∈l,e.1≠[])->aF κ H ad s.heap (l.map λe=>V.aA (ae e.1)) u->∀v∈u,hU s.heap v:=by
 induction l with
 |nil=>intro u _ e v h;subst e;cases h
 |cons p l I=>
  intro u N e v h;obtain⟨y,r,rfl,b,c⟩:=e;refine KS (KM.mp h) (λrfl=>?_) λh=>I (λe d=>N e (KP _ d)) c v h
  ·refine aD (aJ.tk b) λa E R=>cR R λw n g z i=>?_;clear h b;subst E
   refine⟨a,w,n,rfl,g,λe=>?_,λx hx=>?_⟩
   ·clear z g;subst e
    exact N p KJ (List.eq_nil_of_length_eq_zero i.length)
   ·have:∀(k:List Int) (u:List KI),RP (Mq κ.prog κ.w) k u->∀x∈u,∃i t,x=Pw i t:=by
     intro k u i;induction i with
     |nil=>intro x hx;exact(nomatch hx)
     |cons f _ I=>
      intro x hx;rcases KM.mp hx with rfl |hx
      ·obtain⟨t,e⟩:=Pk f;exact⟨_,t,e⟩
      ·exact I x hx
    exact this _ _ i x hx
theorem yr(B:fK κ G):ph κ d .sorted:=by
 intro vs xs Q H ad s A E C R X h;refine cR (oH h X) λv x c j h=>?_;subst c;cases v with
 |fl ys=>exact n5 R j rfl h
 |ref r=>
  obtain⟨o,i,h⟩:=aQ h;induction o with
  |list ys=>exact n5 R j (by refine((Z i ?_):(H.o r).bind Obj.io=_);rfl) h
  |dI es=>obtain⟨b,q⟩:=h;obtain⟨rfl,_⟩:=j;refine eH (qZ (R.obj _ _ i)) λS ep N f=>?_;have I:=mY f;have cQ:=gu I;rw[KE] at cQ;have L:(es.map (·.1)).length=es.length:=KE _;have dl:(S.toList.map (·.key)).length<64:=Z (gu I) (Z L b);have hz:S.size<=LG:=j8 b (cQ.trans L);refine kq (vs:=S.toList.map (·.key)) (Good:=λout=>∃n,P4 out n/\n.Perm (es.map (·.1))/\n.Pairwise (·<=·)) (KB (Lq dl) Iu) (λp F u k=>ki u (e9 B R (bx i)) N hz k) C.handled (λp T6 t a P K w y=>list_sort_tree (s:={s with heap:=T6,toks:=t}) w I dl λout n a1 a2 a3=>y out ⟨n,a1,a2,a3⟩) (λh' D out e t k fr g ue=>gc ue λn a1 a2 a3=>?_);cases lO a2 a3;exact ej (s':={s with heap:=h',toks:=t}) R k rfl rfl fr g (j8 b ((gu a1).trans (a2.length_eq.trans L))) (xs:=ae (cG (es.map (·.1)))) (sL a1) q
  |dP es=>
   refine cH h λb z q=>?_;obtain⟨rfl,_⟩:=j;refine eH (wx (R.obj _ _ i)) λS ep N f=>?_;have cQ:=f.length;rw[KE] at cQ;have T:=B8 z f;have dl:(S.toList.map (·.key)).length<64:=hR cQ b;have hz:S.size<=LG:=j8 b ((KE _).symm.trans cQ.symm);refine kq (vs:=S.toList.map (·.key)) (Good:=λout=>out.Perm (S.toList.map (·.key))) (KB (Lq dl) Iu) (λp F u k=>ki u (e9 B R (bx i)) N hz k) C.handled
    (λp T6 t a P K w y=>po (s:={s with heap:=T6,toks:=t}) w (λv J=>(T v J).keep K) dl λout a1=>y out.toArray a1) (λh' D out e t k fr g ue=>?_);have M:aF κ H ad s.heap ((es.map (·.1)).map λl=>V.aA (ae l)) (S.toList.map (·.key)):=Z Qx f;exact aD (vo ue M) λm W rm=>ej (s':={s with heap:=h',toks:=t}) R k rfl rfl fr g (j8 b (ue.length_eq.trans cQ.symm)) rm (q m W)
  |_=>exact h.elim
 |_=>exact h.elim
theorem CP(K:fK κ G):ph κ d .list:=by
 intro vs xs Q H ad s A E b R X h;obtain⟨v,V,h⟩:=aQ h;replace X:=(mZ V)▸X;clear V;cases v with
 |ref r=>
  obtain⟨o,c,h⟩:=aQ h;induction o with
  |list ys=>exact oF _ _ Q H ad s A E b R X ⟨_,ys,rfl,by refine((Z c ?_):(H.o r).bind Obj.io=_);rfl,h⟩
  |dI es=>
   refine aD (mP X) λx a i=>?_;subst a;obtain⟨rfl,_⟩:=i;refine eH (qZ (R.obj _ _ c)) λD ep n f=>?_;have cQ:=f.length;simp only[KE] at cQ;have hz:D.size<=LG:=by have:=dy (gQ h);rw[cQ] at this;exact this
   exact xQ b.handled (e9 K R (bx c)) n hz λh' tk C c' k g e=>ej (s':={s with heap:=h',toks:=tk}) R k rfl rfl (aW _ (KX _)) g (by simp only[<-Le,e,KE];exact hz) (by simp only[e];exact f) h
  |_=>exact h.elim
 |fl ys=>exact oF _ _ Q H ad s A E b R X ⟨_,ys,rfl,rfl,h⟩
 |_=>exact h.elim
theorem tg{N₀:Lb}(c:fJ ad H h ad' H a)(i:∀N x y,N₀<=N->Nh a N x y->jD H ad' N):∀{s W:List V} {xs ys vs:List KI},aF κ H ad h s xs->aF κ H ad h W ys->cC a N₀ vs (xs.zip ys)->
   aF κ H ad' a ((s.zip W).map λp=>V.aA [p.1,p.2]) vs
 |[],_,xs,ys,vs,e,E,p=>by subst e;cases p;rfl
 |u::s,[],xs,ys,vs,e,E,p=>by obtain⟨x,xs,rfl,r,e⟩:=e;subst E;cases p;rfl
 |u::s,w::W,xs,ys,vs,e,E,p=>by
  obtain⟨x,xs,rfl,r,e⟩:=e;obtain⟨y,ys,rfl,R,E⟩:=E;cases p with
  |@cons N _ _ vs _ n P p=>exact⟨_,_,rfl,⟨N,#[x,y],0,rfl,i N x y n P,P,by refine((Z NO ?_):2<=LG);decide,x,[y],rfl,r.aL c,y,[],rfl,R.aL c,rfl⟩,tg c i e E p⟩
theorem Fs(T:cj d A)(R:bf κ H ad s)(X:aF κ H ad s.heap vs xs)(h:qI .e6 vs Q H):
  KV (K5 κ.prog κ.w) A (call (.type "zip") xs) (λz s'=>KV (K5 κ.prog κ.w) A (call (.type "list") [z]) (a' κ dD ad H s.heap Q) E s') E s:=by
 refine tP (uT h X) λv w x y i X W h=>?_;subst i;obtain⟨us,G,h⟩:=aQ h;obtain⟨ws,hw,h⟩:=aQ h;obtain rfl:v=_:=om G;clear G h;obtain rfl:w=_:=om hw;obtain⟨a,xs,n,rfl,ia,ga,I,fa⟩:=X;clear X;obtain⟨b,ys,m,rfl,ib,gb,zb,fb⟩:=W;refine mo ⟨_,ga,rfl,n,rfl⟩ ⟨_,gb,rfl,m,rfl⟩ λh' z TI TO i1 i2 D Z J M lt l1 l2 k=>AM (s:={s with heap:=h'}) T.handled I D Z J λf u c K g p=>?_;have Ca:∀{a:Lb} {o:K4} {N:Lb},s.heap.get? a=U o->s.heap.objs.size<=N->a≠N:=λe t=>MS (K6 (Lh e) t);have B:∀b o,s.heap.get? b=U o->f.get? b=U o:=λb o e=>K b o (Ca e M) (Ca e lt) (Ca e l1) (Ca e l2) (k b o e);have S:s.heap.objs.size<=h'.objs.size:=Lq (KU M (Lh J));have F:s.heap.get? h'.objs.size=KF:=aW _ S;have hz:u.size<=LG:=by have L:=p.length;simp only[R1] at L;exact KB (KQ L) (KB (P5 _ _) I)
 have R':bf κ H (ad.a9 h'.objs.size) {s with heap:=f}:=R.a9 B rfl rfl F ⟨_,g⟩;refine p9 R' (f' R F) (ei R F) g hz (tg (cy B F) (λN x y t hp=>⟨λl=>?_,λq=>?_⟩) fa fb p) (bf.cX (s':={s with heap:=f}) R B) F h
 ·refine aD l λr hr e=>?_
  obtain⟨o,j⟩:=R.cZ ⟨r,hr,e⟩;replace j:=(aW _ (KB S t))▸j;exact al j
 ·rcases q with q |q
  ·clear t;subst q
   have P:f.get? h'.objs.size=_:=hp;simp only[g] at P;have C:MQ "list"=MQ "tuple":=congrArg Q7 (KC P);injection C with C;exact absurd C (by decide)
  ·obtain⟨o,j⟩:=R.k7 N q
   replace j:=(aW _ (KB S t))▸j;exact al j
theorem qJ{sh:Bool}(k:fK κ G)(V:EnvR κ nm gl env J H ad s.heap)(R:bf κ H ad s)(h:gl.contains (KD "list")=true){P:KI->K2->Prop}(q:P (.type "list") s):KV (K5 κ.prog κ.w) A (Nz (.Name (KD "list") p) env) P E s:=
 fQ k V R h rfl (k.Bb .list).1 (k.Bb .list).2 q
theorem pf(r:List KN)(env:Pl):Mi (.Name x p::r) env=(false,Nz (.Name x p) env)::Mi r env:=rfl
theorem rz(k:fK κ G)(I:SE κ G C d e){P pos:P9}(x:gl.contains (KD "isinstance")=true)(c:gl.contains (KD "list")=true)(m:e.ok nm gl a=true)
  (o:cj d A)(V:EnvR κ nm gl env J H ad s.heap)(R:bf κ H ad s){Q:PV}(w:e.wp G C J (λv h=>qI .hg [v] Q h) H):KV (K5 κ.prog κ.w) A (Nz (.Call (.Name (KD "isinstance") p) [e.py nm a,.Name (KD "list") P] [] pos) env) (a' κ dD ad H s.heap Q) E s:=by
 refine Nj (fQ k V R x rfl (k.Bb .hg).1 (k.Bb .hg).2 ?_);have j:Mi [e.py nm a,.Name (KD "list") P] env=[(false,Nz (e.py nm a) env),(false,Nz (.Name (KD "list") P) env)]:=dn _ _ _ _ _;have i:(NK pos (Mi [e.py nm a,.Name (KD "list") P] env)).any (·.1)=false:=by refine Z j ?_;rfl
 refine Qr i ?_;have cY:KV (K5 κ.prog κ.w) A (spliced (NK pos (Mi [e.py nm a,.Name (KD "list") P] env))) (λxs s'=>KV (K5 κ.prog κ.w) A (call (.builtin "isinstance") xs) (a' κ dD ad H s.heap Q) E s') E s:=by refine P3 (K0 (I a nm gl m A E env J _ H ad s o V R w) (λu l q=>?_) λ_ _ y=>y) (dn e nm a _ env);obtain⟨T2,T3,v,q,X,r,S⟩:=q;refine P3 (qJ (sh:=true) k (V.step S r.au) r c (Rj ?_)) (pf [] env);obtain⟨ys,t,q⟩:=aQ q;obtain⟨b,W,n,rfl,g,z,f⟩:=dc r t X;exact SW g rfl (a'.trans S r.au (a'.c0 r q rfl))
 rw[j] at cY⊢;exact OM cY
theorem xy(k:fK κ G)(i:pp κ G C d es){pos P:P9}(x:gl.contains (KD "list")=true)(a:gl.contains (KD "zip")=true)(f:Ex.hO nm gl es xs=true)
  (b:cj d A)(V:EnvR κ nm gl env J H ad s.heap)(R:bf κ H ad s){Q:PV}(w:Ex.bh G C es J (λvs h=>qI .e6 vs Q h) H):KV (K5 κ.prog κ.w) A (Nz (.Call (.Name (KD "list") p) [.Call (.Name (KD "zip") e) (Ex.cP nm es xs) [] P] [] pos) env) (a' κ dD ad H s.heap Q) E s:=by
 exact Nj (qJ (sh:=true) k V R x (Pd (by rfl) (OM (P3 (Nj (fQ k V R a rfl k.Hq.1 k.Hq.2 (i2 i f b V R w λad' H' s' vs u q X r S=>K0 (Fs b r X q) (λz c p=>Rj (K0 p (λ_ _ p=>a'.trans S r.au p) λ_ _ y=>y)) λ_ _ y=>y))) rfl))))
theorem td(k:fK κ G)(b:BI)(i:pp κ G C d es)(I:∀m∈es,SE κ G C d m):SE κ G C d (.bi b es):=by
 intro e nm gl c A E env J Q H ad s a V R w;have go:∀B,ph κ d B->(gl.contains (KD B.name)&&(fF (KD B.name)&&Ex.hO nm gl es (cu e).tail))=true->Ex.bh G C es J (λvs h=>qI B vs Q h) H->
   KV (K5 κ.prog κ.w) A (Nz (.Call (.Name (KD B.name) (cO e 0).pos) (Ex.cP nm es (cu e).tail) [] e.pos) env) (a' κ dD ad H s.heap Q) E s:=λB ok c w=>Df k ok i (bt c).1 (bt (bt c).2).1 (bt (bt c).2).2 a V R w;cases b with
 |cQ=>exact go _ Fc c w
 |list=>exact go _ (CP k) c w
 |tuple=>exact go _ AB c w
 |sorted=>exact go _ (yr k) c w
 |e6=>exact xy k i (bt c).1 (bt (bt c).2).1 (bt (bt c).2).2 a V R w
 |range=>exact go _ zy c w
 |min=>exact go _ Fv c w
 |max=>exact go _ FS c w
 |int=>exact go _ Fj c w
 |hg=>
  refine th c λx y f c=>?_;cases es with
  |nil=>exact nomatch f
  |cons m M=>
   cases M with
   |nil=>exact rz k (I m KJ) x y (bt c).1 a V R w
   |cons _ _=>exact nomatch f
 |dict=>exact go .dict (λvs xs Q H ad s A E a R r h=>h.elim) c w
end
theorem xR(k:fK κ G)(b:BI)(i:pp κ G C d es)(I:∀m∈es,SE κ G C d m):ST κ G C d (.bi b es):=jp (td k b i I) (λJ Q H h=>h) λe nm env=>by induction b<;>rfl
theorem Er{m:Ex}(h:∀J Q H,¬m.wp G C J Q H):SE κ G C d m:=λe nm gl c A E env J Q H ad s a V R w=>(h J Q H w).elim
theorem lD{m:Ex}(h:∀J Q H,¬m.qX G C J Q H):ST κ G C d m:=λe nm gl c A E env J Q H ad s a V R w=>(h J Q H w).elim
section
variable (KO:fK κ G) (CO:g3 κ C d)
include KO CO
mutual
theorem cc:∀m:Ex,SE κ G C d m/\ST κ G C d m
 |.aE c=>⟨xM c,lD λ_ _ _ h=>h⟩
 |.var i=>⟨qP i,uA i⟩
 |.c5 x=>⟨ve KO x,lD λ_ _ _ h=>h⟩
 |.ao e f=>⟨vc KO (cc e).1 f,lD λ_ _ _ h=>h⟩
 |.sub e i=>⟨yj KO (cc e).1 (cc i).1,lD λ_ _ _ h=>h⟩
 |.gj e i=>⟨so (cc e).1 (cc i).1,lD λ_ _ _ h=>h⟩
 |.EY e=>⟨xI (cc e).1,lD λ_ _ _ h=>h⟩
 |.aA es=>⟨yg (dU es).1,lD λ_ _ _ h=>h⟩
 |.list es=>⟨vp (dU es).1,lD λ_ _ _ h=>h⟩
 |.dict k vs=>⟨vQ (λm H=>((dU vs).2 m H).1),lD λ_ _ _ h=>h⟩
 |.hQ op a b=>⟨yw (cc a).1 (cc b).1 op,lD λ_ _ _ h=>h⟩
 |.bV op a b=>⟨w7 KO (cc a).1 (cc b).1 op,u0 KO (cc a).1 (cc b).1 op⟩
 |.not a=>⟨Er λ_ _ _ h=>h,uZ (cc a).2⟩
 |.and es=>⟨Er λ_ _ _ h=>h,vu λm H=>((dU es).2 m H).2⟩
 |.or es=>⟨Er λ_ _ _ h=>h,xU λm H=>((dU es).2 m H).2⟩
 |.cF c a b=>⟨xO (cc c).2 (cc a).1 (cc b).1,lD λ_ _ _ h=>h⟩
 |.call f es=>⟨ni KO CO (dU es).1 f,tA KO CO (dU es).1 f⟩
 |.az e m es=>⟨nR KO CO (cc e).1 (dU es).1 m,sc KO CO (cc e).1 (dU es).1 m⟩
 |.bi b es=>⟨td KO b (dU es).1 (λm H=>((dU es).2 m H).1),xR KO b (dU es).1 (λm H=>((dU es).2 m H).1)⟩
 |.new K es=>⟨xP KO CO (dU es).1 K,lD λ_ _ _ h=>h⟩
 |.comp elt i it c=>⟨uq KO (cc elt).1 (cc it).1 (Dm c),lD λ_ _ _ h=>h⟩
theorem dU:∀M:List Ex,pp κ G C d M/\∀m∈M,SE κ G C d m/\ST κ G C d m
 |[]=>⟨sx,λ_ h=>nomatch h⟩
 |m::M=>⟨rj (cc m).1 (dU M).1,λx hx=>by
  rcases KM.mp hx with e |hx
  ·rw[e];exact cc m
  ·exact(dU M).2 x hx⟩
theorem Dm:∀c:Option Ex,∀e,c=U e->ST κ G C d e
 |none=>λ_ h=>nomatch h
 |some e=>λ_ h=>by cases h;exact(cc e).2
end
mutual
theorem yK:∀t:Tg,SG κ G C d t
 |.var i=>uI i
 |.ao e f=>ty KO (cc KO CO e).1 f
 |.sub e i=>vL KO (cc KO CO e).1 (cc KO CO i).1
 |.aA T=>uM (y4 T)
theorem y4:∀T:List Tg,Jn κ G C d T
 |[]=>λ_ h=>nomatch h
 |t::T=>λx hx=>by
  rcases KM.mp hx with e |hx
  ·rw[e];exact yK t
  ·exact y4 T x hx
end
mutual
theorem G7:∀m:St,SS κ G C d m
 |.expr e=>sY (cc KO CO e).1
 |.a8 t e=>vS KO (yK KO CO t) (cc KO CO e).1 λelt i it c h=>⟨(cc KO CO elt).1,(cc KO CO it).1,Dm KO CO c⟩
 |.mB e i=>ui KO (cc KO CO e).1 (cc KO CO i).1
 |.cF c a b=>vG (cc KO CO c).2 (k9 a) (k9 b)
 |.while c b=>qQ (cc KO CO c).2 (k9 b)
 |.for t e b=>vI KO (yK KO CO t) (cc KO CO e).1 (k9 b)
 |.ret e=>uO (cc KO CO e).1
 |.raise=>rU
theorem k9:∀M:List St,DS κ G C d M
 |[]=>sa
 |m::M=>rN (G7 m) (k9 M)
end
end
section
variable {Uk:Shared} {A:Around} {h:Heap}
theorem Et(f:Gc v H p H')(R:bf κ H ad s)(e:aJ κ H ad s.heap v x):aJ κ H' ad s.heap p x/\bf κ H' ad s/\Step dD ad H s.heap ad H' s.heap:=by
 cases f with
 |refl=>exact⟨e,R,Step.refl⟩
 |dZ o=>exact⟨aJ.rH R o e,R.drop _,Step.drop⟩
 |fst o B=>obtain⟨a,ys,n,rfl,i,g,z,X,b,E,F,c,d,j,k,l⟩:=e;exact⟨⟨a,ys,n,rfl,(ds|>.rs _ _ g (h5 rfl) i).1,g,z,X,b,E,aJ.rH R o F,c,d,j,k.aL ds,l⟩,R.drop _,Step.drop⟩
 |@Jp r xs q ys h o Q m=>obtain⟨a,Z,n,rfl,i,g,z,X,b,E,F,c,d,j,k,l⟩:=e;exact⟨⟨a,Z,n,rfl,(ds (r:=q)|>.rs _ _ g (h5 rfl) ((ds (r:=r)|>.rs _ _ g (h5 rfl) i).1)).1,g,z,X,b,E,(aJ.rH R o F).aL ds,c,d,j,aJ.rH (R.drop r) ((if_neg (Qg m)).trans Q:(H.drop r).o q=U (.list ys)) (k.aL ds),l⟩,(R.drop r).drop _,Step.drop.trans Step.drop (R.drop r).au⟩
theorem Step.frame(k:∀b o,h.get? b=U o->T6.get? b=U o)(l:∀r,(H.o r).isSome=true->∃o,h.get? (ad.f r)=U o)(S:Step X ad H T6 ad' H' h')(d:∀b,X b->h.get? b=none):Step dD ad H h ad' H' h' where
 keep:=λb o e N _=>S.keep b o (k b o e) N λx=>by replace e:=(d b x)▸e;exact al e
 ext:=S.ext
 z:=S.z
 fresh:=λr R f=>(S.fresh r R f).imp id λq=>⟨q.1,by
  induction e:h.get? (ad'.f r) with
  |none=>rfl
  |some o=>have:=k _ _ e;replace this:=q.2▸this;exact al this⟩
 n:=S.n
 e4:=S.e4
 same:=λr R c i e=>by refine ay (S.same r R c i e) λa b=>?_;obtain⟨o,g⟩:=l r c;exact⟨a,Z b (Z g (k _ _ g))⟩
 bv:=λb o e=>S.bv b o (k b o e)
theorem qy{k:KR->Option Mc}{x:KR}:∀{l:List (KR×KI)} {m:KR->Option KI},x∉l.map (·.1)->Tw k l m x=m x
 |[],m,_=>rfl
 |(n,v)::r,m,h=>by
  simp only[Ln,KM,not_or] at h;unfold Tw;refine Z (qy h.2) ?_;split;·simp[h.1]
  ·rfl
theorem qK{k:KR->Option Mc}{x:KR}:∀{l:List (KR×KI)} {m:KR->Option KI},x∉l.map (·.1)->SD k l m x=m x
 |[],m,_=>rfl
 |(n,v)::r,m,h=>by
  simp only[Ln,KM,not_or] at h;unfold SD;refine Z (qK h.2) ?_;split;·rfl
  ·simp[h.1]
theorem tm{k:KR->Option Mc}{x:KR}{v:KI}(H:k x=U .local):∀{l:List (KR×KI)} {m:KR->Option KI},(l.map (·.1)).Nodup->(x,v)∈l->Tw k l m x=U v
 |[],m,_,h=>nomatch h
 |(n,w)::r,m,N,h=>by
  simp only[Ln,K9] at N;unfold Tw;refine KS (KM.mp h) (λe=>?_) λh=>tm H N.2 h
  ·obtain⟨rfl,rfl⟩:=Lz e
   refine Z (qy N.1) (Z (if_pos H) ?_);simp
theorem sE{k:KR->Option Mc}{x:KR}{v:KI}(H:k x≠U .local):∀{l:List (KR×KI)} {m:KR->Option KI},(l.map (·.1)).Nodup->(x,v)∈l->SD k l m x=U v
 |[],m,_,h=>nomatch h
 |(n,w)::r,m,N,h=>by
  simp only[Ln,K9] at N;unfold SD;refine KS (KM.mp h) (λe=>?_) λh=>sE H N.2 h
  ·obtain⟨rfl,rfl⟩:=Lz e
   refine Z (qK N.1) (Z (if_neg H) ?_);simp
theorem g4:∀{l:List (KR×Mc)} {n:Nat} {acc:List (KR×Lb)},(acc.lookup x).isSome=true->((Q6 n l acc).lookup x).isSome=true
 |[],n,acc,h=>h
 |(y,k)::r,n,acc,h=>by
  unfold Q6;split
  ·refine g4 ?_
   simp only[LR];split;·rfl
   ·exact h
  ·exact g4 h
theorem eC{x:KR}:∀{l:List (KR×Mc)} {n:Nat} {acc:List (KR×Lb)},(x,PO)∈l->((Q6 n l acc).lookup x).isSome=true
 |(y,k)::r,n,acc,h=>by
  unfold Q6;refine KS (KM.mp h) (λe=>?_) λh=>?_
  ·obtain⟨rfl,rfl⟩:=Lz e
   refine Z (if_pos ((rfl:(PO==PO)=true))) (g4 ?_);simp[LR]
  ·split
   ·exact eC h
   ·exact eC h
structure zj(κ:dz)(fa:Lb)(F:Fn)(o:K4)(f:N7)(b:List LH)(nm:Nm)(gl:Gl)(ps:List KR):Prop where
 ho:κ.base.get? fa=U o
 hd:o.data=.func f
 hb:f.body=.stmts (St.cP nm F.body b)
 oP:f.closure=[]
 kind:f.scope.kind=.function
 co:f.scope.isCoroutine=false
 gen:f.scope.isGenerator=false
 wB:f.globals=Mg
 blt:f.builtins=OZ
 code:κ.base.CodeRec f.code f.qualname
 Hl:∀xs:List KI,xs.length=F.params->RO f ⟨xs,[]⟩=pure (ps.zip xs)
 JH:ps.length=F.params
 JB:ps.Nodup
 J8:St.hO nm gl F.body b=true
 JG:∀(i:Nat) x,ps[i]? =U x->nm.lookup x=U i
 Jf:∀x i,nm.lookup x=U i->f.scope.names.lookup x=U .local\/f.scope.names.lookup x=U .cell
 inj:∀x y i,nm.lookup x=U i->nm.lookup y=U i->x=y
 c5:∀x,gl.contains x=true->f.scope.names.lookup x=U .globalImplicit
 gJ:gl.gJ=κ.gJ
 ck:∀x,gl.cells.contains x=true->f.scope.names.lookup x≠U .local
theorem z5{fa:Lb}(F:zj κ fa N o f B nm gl ps){vs:List V}(p:vs.length=N.params)(R:bf κ H ad s)(q:aF κ H ad s.heap vs xs)(u:κ.base.objs.size<=s.heap.objs.size)
  (x:InCallC s (NX f s.heap.objs.size a).locals (Tw (NX f s.heap.objs.size a).kindOf (ps.zip xs) λ_=>KF) (NX f s.heap.objs.size a).cells (SD (NX f s.heap.objs.size a).kindOf (ps.zip xs) λ_=>KF) Uk):
  h8 κ nm gl (NX f s.heap.objs.size a) (vs.map U++NG (N.slots-N.params) KF) H ad Uk.heap:=by
 have C:fJ ad H s.heap ad H Uk.heap:=(bf.cX (X:=dD) (s':=Uk) R x.toInCall.keep).aL R.au;have M:(ps.zip xs).map (·.1)=ps:=by rw[List.map_fst_zip];rw[F.JH,(by simp only[<-q.length,p]:xs.length=N.params)];exact KX _
 have rs:∀c,s.heap.objs.size<=c->jD H ad c:=λc h=>⟨v0 R h,f' R (aW _ h)⟩;have arg:∀y i v,nm.lookup y=U i->((vs.map U++NG (N.slots-N.params) KF)[i]?).join=U v->∃b,(y,b)∈ps.zip xs/\aJ κ H ad s.heap v b:=λy i v d I=>by
  by_cases c:i<vs.length
  ·rw[Mb (by simpa using c)] at I
   simp only[Mz] at I;have e:vs[i]? =U vs[i]:=LV c;replace I:=e▸I;simp only[Nr,Option.join_some,ON] at I;refine aD (q.get e) λb w r=>?_;have D:i<ps.length:=Z F.JH (hR p c);have ep:ps[i]? =U ps[i]:=LV D;have:=F.inj y _ i d (F.JG i _ ep);refine⟨b,Z this (Nf (i:=i) ?_),hR I r⟩;rw[Qi];exact⟨ep,w⟩
  ·rw[Lj (by simpa using c)] at I
   simp only[Qt] at I;split at I<;>simp at I
 have L:∀y c,(NX f s.heap.objs.size a).cells.lookup y=U c->s.heap.objs.size<=c/\c≠(NX f s.heap.objs.size a).locals:=λy c h=>by have:=x.above y c (cz h);exact⟨Lq this,NM this⟩
 refine⟨⟨F.kind,F.wB,F.blt,⟨_,x.toInCall.ns⟩,u,rs _ (KX _),λy i d=>?_,F.c5,F.gJ,F.ck⟩,F.Jf,λy c h=>ay (L y c h) λl G=>⟨rs c l,⟨_,x.cell y c h⟩,G,ei R (aW _ l)⟩,λy z c d hz=>?_,F.inj⟩
 ·rcases F.Jf y i d with k |k
  ·refine .inl ⟨k,λv g=>aD (arg y i v d g) λb m r=>?_⟩
   exact⟨_,b,x.toInCall.ns,tm k (Z M F.JB) m,r.aL C⟩
  ·refine cV (LK.mp (eC (n:=s.heap.objs.size+1) (acc:=[]) (cz k))) λc h=>.inr ⟨.inl k,c,h,rs c (L y c h).1,⟨_,x.cell y c h⟩,λv g=>?_⟩
   exact aD (arg y i v d g) λb m r=>⟨b,hR (sE (by refine(?_ :f.scope.names.lookup y≠_);refine Z k ?_;exact λe=>nomatch e) (by refine Z M ?_;exact F.JB) m:SD (NX f s.heap.objs.size a).kindOf (ps.zip xs) (λ_=>KF) y=U b) (x.cell y c h),r.aL C⟩
 ·have j:=cz d
  have h2:=cz hz;have A:=x.apart;generalize (NX f s.heap.objs.size a).cells=cs at j h2 A;clear d hz;induction A with
  |nil=>cases j
  |cons hd _ J=>
   refine KS (KM.mp j) (λE=>?_) λj=>?_ <;>rcases KM.mp h2 with t |h2
   ·replace E:=(t).symm▸E;exact(Lz E).1
   ·exact absurd (hR E rfl) (hd _ h2)
   ·exact absurd (hR t rfl) (hd _ j)
   ·exact J j h2
end
section
variable {A:Around}
theorem GQ(K:fK κ G)(CO:g3 κ C d){fa:Lb}{D:N7}(F:zj κ fa n o D B nm gl ps)(w:Hk G C n vs Q H)
  (m:wS (d+1) A)(I:aF κ H ad s.heap vs xs)(R:bf κ H ad s):
  OY (K5 κ.prog κ.w) A (.call (.ref fa) ⟨xs,[]⟩) (λr s'=>match r with |.ok (.ret v)=>a' κ dD ad H s.heap Q v s' |.ok _=>False |.error e=>E e s') s:=by
 refine ay w λJ w=>?_;have M:κ.base.objs.size<=s.heap.objs.size:=by exact eH K.top λb o e l=>KB l (Lh (R.base _ _ e))
 have N:xs.length=n.params:=hR I.length (Z J rfl);have u:A.depth<Tp:=by have:=m.depth;have:Tp=1000:=rfl;lia
 have j:s.heap.CodeRec D.code D.qualname:=by exact oT F.code λc T W t e g r=>⟨c,T,W,t,e,R.base _ _ g,r⟩
 refine codeAny_call_cells u (R.base _ _ F.ho) F.hd (K.nolimit.keeps R.base) j F.hb (F.Hl xs N) F.oP (λx X=>?_) (λa x=>?_) F.co F.gen F.kind
 ·obtain⟨i,hi⟩:=List.mem_iff_getElem?.mp ((RZ X).1:x.1∈ps)
  exact KS (F.Jf _ i (F.JG i _ hi)) (λk=>.inl k) λk=>.inr ⟨k,eC (cz k)⟩
 ·have P:=x.toInCall.keep
  have L:a.gens=s.gens/\a.os=s.os:=by exact g9 x.toInCall.same λh t e=>Z e ⟨rfl,rfl⟩
  have room:cj d (A.deeper (NX D s.heap.objs.size fa)):=by
   refine⟨m.handled,?_,?_⟩
   ·refine(?_ :A.depth+1+3*d+3<=900)
    have:=m.depth;exact bM (gF _ _) 0x13312833113700384513113121138337003845 rfl this
   ·refine(?_ :A.units+3+100*d+100<=9900)
    have:=m.units;exact bM (gF _ _) 0x16441286441337026ac51313c41211386447026ac5 rfl this
  refine K0 (k9 K CO n.body B nm gl F.J8 _ _ _ _ _ H ad a room (z5 F J R I M x) (R.keeps P L.1 L.2:bf κ H ad a) w) (λf s' p=>?_) λ_ _ y=>y;obtain⟨ad',H',aa,fl,q,fr,V',z,S⟩:=p;have X:∀b,FX (NX D s.heap.objs.size fa) b->s.heap.get? b=KF:=λb hb=>by
   rcases hb with rfl |⟨y,hc⟩
   ·exact aW _ (KX _)
   ·exact aW _ (Lq (x.above y b (cz hc)))
  have S':=Step.frame P (λr u=>R.cZ ⟨r,u,rfl⟩) S X;induction fl with
  |next=>subst fr;exact⟨ad',H',_,q,rfl,z,S'⟩
  |ret v=>obtain⟨y,rfl,ry⟩:=fr;obtain⟨v',Uj,fz,q⟩:=q;exact cH (Et fz z ry) λr1 r2 r3=>⟨ad',Uj,v',q,r1,r2,S'.trans r3 z.au⟩
theorem s6(k:fK κ G){T:String->Option Fn}(t:∀f N,T f=U N->∃fa o d b nm gl ps,κ.fn f=U fa/\zj κ fa N o d b nm gl ps):∀n,g3 κ (a5 G T n) n
 |0=>λf vs Q H h=>h.elim
 |n+1=>λf vs Q H h=>by obtain⟨N,c,h⟩:=aQ h;obtain⟨fa,o,d,b,nm,gl,ps,a,F⟩:=t f N c;exact⟨fa,a,λxs ad s A E e r R=>GQ k (s6 k t n) F h e r R⟩
end
noncomputable def B7(n:List String):Nm:=(n.map KD).zipIdx
noncomputable def ir(p:S1):Bool:=p.posonlyargs.isEmpty&&p.kwonlyargs.isEmpty&&p.vararg.isNone&&p.kwarg.isNone
noncomputable def Hh:TD->List KI
 |.fields vs=>vs.toList
 |_=>[]
noncomputable def rL(q:KR):KI->Bool
 |.str s _=>s==q
 |_=>false
noncomputable def u'(i:Int):KI->Bool
 |.int j _=>decide (j=i)
 |_=>false
noncomputable def DF:KI->Option Lb
 |.ref c=>U c
 |_=>KF
noncomputable def Bw{a:Type}:List a->Option a
 |[]=>KF
 |_::r=>r.head?
noncomputable def vX(K:O0)(C:KI)(q:KR):Bool:=(DF C).any λc=>(K.lookup c).any λo=>(Bw (Hh o.data)).any (rL q)
noncomputable def rP:KI->Bool
 |.none=>true
 |_=>false
noncomputable def DT:TD->Option N7
 |.func f=>U f
 |_=>KF
noncomputable def DP(K:O0)(fa:Lb):Option N7:=(K.lookup fa).bind λo=>DT o.data
noncomputable def Gi:FuncBody->Option (List LH)
 |.stmts b=>U b
 |_=>KF
noncomputable def yH(K:O0)(fa:Lb):Option (List LH):=(DP K fa).bind λf=>Gi f.body
noncomputable def He(K:O0)(F:List String)(N:Fn)(n:List String)(i:List LH)(f:N7):Bool:=
 f.closure.isEmpty&&(f.scope.kind==.function&&(!f.scope.isCoroutine&&(!f.scope.isGenerator&&(decide (f.globals=Mg)&&(decide (f.builtins=OZ)&&
   (vX K f.code f.qualname&&(ir f.params&&(rP f.defaults&&(decide (f.params.args.map (·.arg)=(n.take N.params).map KD)&&(decide (N.params<=n.length)&&
   (decide ((n.map KD).Nodup)&&(decide ((f.scope.names.map (·.1)).Nodup)&&((n.all λx=>f.scope.names.lookup (KD x)==U .local||f.scope.names.lookup (KD x)==U .cell)&&
   St.hO (B7 n) (li F f.scope) N.body i)))))))))))))
noncomputable def D4(K:O0)(f:List String)(fa:Lb)(F:Fn)(n:List String)(i:List LH):Bool:=(DP K fa).any (He K f F n i)
theorem iD{b:Type}{o:Option b}{f:b->Bool}(h:o.any f=true):CV o λa=>f a=true:=by
 induction o with
 |none=>exact aK h
 |some a=>exact⟨a,rfl,h⟩
theorem Cn{d:TD}{f:N7}(h:DT d=U f):d=.func f:=by induction d with
 |func x=>exact congrArg Data.func (KC h)
 |_=>exact al h
theorem FO{d:FuncBody}{b:List LH}(h:Gi d=U b):d=.stmts b:=by induction d with
 |stmts x=>exact congrArg FuncBody.stmts (KC h)
 |_=>exact al h
theorem EP{a:Lb}(h:DF v=U a):v=.ref a:=by induction v with
 |ref x=>exact congrArg Mu (KC h)
 |_=>exact al h
theorem rF(h:rL q v=true):∃t,v=.str q t:=by
 induction v with
 |str s t=>exact⟨t,Z (beq_iff_eq.mp h) rfl⟩
 |_=>exact aK h
theorem vW(h:u' i v=true):∃t,v=.int i t:=by
 induction v with
 |int s t=>exact⟨t,Z (of_decide_eq_true h) rfl⟩
 |_=>exact aK h
theorem yb{c:Type}{l:List c}{x:c}(h:Bw l=U x):l[1]? =U x:=by
 induction l using Lx with
 |nil=>exact al h
 |cons a l=>induction l using Lx with
  |nil=>exact al h
  |cons b l=>exact h
theorem zo{K:O0}{H:Heap}{C:KI}(k:K.In H)(h:vX K C q=true):H.CodeRec C q:=by
 obtain⟨c,a,h⟩:=iD h;obtain⟨o,b,h⟩:=iD h;obtain⟨v,V,h⟩:=iD h;obtain⟨t,rfl⟩:=rF h;have:=yb V;induction hd:o.data with
 |fields vs=>replace this:=hd▸this;exact⟨c,o,vs,t,EP a,k _ _ b,hd,QA.symm.trans this⟩
 |_=>replace this:=hd▸this;exact al this
theorem tW{a b:Type}{f g:a->Option b}:∀{l:List a},(∀x∈l,f x=g x)->l.filterMap f=l.filterMap g
 |[],_=>rfl
 |x::r,h=>by simp only[Lg,Lg,h x KJ,tW λy H=>h y (KP _ H)]
theorem Bu{a b:Type}(l:List a)(k:Nat):l.zip (List.drop k ([]:List b))=[]:=Z List.drop_nil List.zip_nil_right
theorem AC{f:N7}{as:List Arg}{K:List (Option KN)}{d:List KN}{xs:List KI}(H:xs.length=(as.map (·.arg)).length)
  (fk:∀n∈(as.map (·.arg)),(((as.map (·.arg)).zip xs).lookup n).isNone=false)(F:(as.map (·.arg)).filterMap (λn=>(((as.map (·.arg)).zip xs).lookup n).map (n,·))=(as.map (·.arg)).zip xs):
  RO {f with params:=⟨[],as,KF,[],K,KF,d⟩,defaults:=.none} ⟨xs,[]⟩=pure ((as.map (·.arg)).zip xs):=by
 refine Rd (if_neg ?_) (Rd (if_neg ?_) ?_);·exact λh=>absurd (of_decide_eq_true (bt h).1:xs.length>(as.map (·.arg)).length) (λh=>M5 _ (H▸h))
 ·exact λh=>LW ((congrArg (λl:List KR=>!l.isEmpty) ((λk=>List.filter_eq_nil_iff.mpr λn N h=>LW ((fk n (QU N)).symm.trans h):∀k,((as.map (·.arg)).take k).filter (λn=>(((as.map (·.arg)).zip xs).lookup n).isNone)=[]) _)).symm.trans h)
 ·refine Z (Bu _ _) ?_
  exact congrArg (pure:List (KR×KI)->SV _) ((congrArg (NH _) (K8 _)).trans F)
theorem C4(h:rP v=true):v=.none:=by cases v<;>first |rfl |exact aK h
theorem EV{a1 a2 a3 a A b c}(e:a1=[])(E:a=[])(d:a3=KF)(f:b=KF):Arguments.mk a1 a2 a3 a A b c=⟨[],a2,KF,[],A,KF,c⟩:=by subst e d E f;rfl
theorem CA:∀{p:S1},ir p=true->p=⟨[],p.args,KF,[],p.kw_defaults,KF,p.defaults⟩
 |.mk ..,h=>EV (Os.mp (bt (bt (bt h).1).1).1) (Os.mp (bt (bt (bt h).1).1).2) (Ni.mp (bt (bt h).1).2) (Ni.mp (bt h).2)
theorem FP{f:N7}{p:S1}{d:KI}(e:f.params=p)(E:f.defaults=d):f={f with params:=p,defaults:=d}:=by subst e E;rfl
set_option tactic.hygienic true in
theorem Bf{f:N7}{ps:List KR}(P:ir f.params=true)(hd:rP f.defaults=true)(a:f.params.args.map (·.arg)=ps)(N:ps.Nodup){xs:List KI}(h:xs.length=ps.length):
  RO f ⟨xs,[]⟩=pure (ps.zip xs):=by
 have fk:∀(ps:List KR) (xs:List KI),xs.length=ps.length->∀n∈ps,((ps.zip xs).lookup n).isNone=false:=by
  intro ps xs h n H
  induction ps generalizing xs with
  |nil=>cases H
  |cons p r i=>
   cases xs with
   |nil=>cases h
   |cons x l=>
    simp only[Q9,LR]
    split
    ·rfl
    ·rename_i e
     rcases KM.mp H with rfl |H
     ·simp at e
     ·exact i l (by simpa using h) H
 have F:∀(ps:List KR) (xs:List KI),xs.length=ps.length->ps.Nodup->ps.filterMap (λn=>((ps.zip xs).lookup n).map (n,·))=ps.zip xs:=by
  intro ps xs h N
  induction ps generalizing xs with
  |nil=>rfl
  |cons p r i=>
   cases xs with
   |nil=>cases h
   |cons x l=>
    simp only[K9] at N
    simp only[Q9,Lg,LR,beq_self_eq_true,Nr]
    congr 1
    refine(tW λn H=>?_).trans (i l (by simpa using h:l.length=r.length) N.2)
    have:(n==p)=false:=by
     simp only[beq_eq_false_iff_ne];rintro rfl;exact N.1 H
    exact Z this rfl
 refine(congrArg (RO · _) (FP (CA P) (C4 hd))).trans ?_
 subst a
 exact AC h (fk _ _ h) (F _ _ h N)
theorem su{ps:List KR}(n:ps.Nodup):∀(k i:Nat) (x:KR),ps[i]? =U x->(ps.zipIdx k).lookup x=U (k+i):=by
 induction ps with
 |nil=>intro k i x h;simp at h
 |cons p r I=>
  intro k i x h;simp only[K9] at n;simp only[Oq,LR];cases i with
  |zero=>simp at h;subst h;simp
  |succ i=>
   simp only[Ot] at h;have:(x==p)=false:=by simp only[beq_eq_false_iff_ne];rintro rfl;exact n.1 (Nf h)
   refine Z this ?_;simp only;refine Z (I n.2 (k+1) i x h) ?_;congr 1;exact L2 (bM (gF _ _) 0x181137111387 rfl) (bM (gF _ _) 0x111387181137 rfl)
set_option tactic.hygienic true in
theorem jT{ps:List KR}:∀(k i:Nat) (x:KR),(ps.zipIdx k).lookup x=U i->k<=i/\ps[i-k]? =U x:=by
 induction ps with
 |nil=>intro k i x h;simp at h
 |cons p r I=>
  intro k i x h
  simp only[Oq,LR] at h
  split at h
  ·rename_i e
   (replace h:=KC h;subst h)
   simp only[beq_iff_eq] at e;subst e
   simp
  ·exact ay (I (k+1) i x h) λl e=>⟨Lq ‹_›,Z (by lia:i-k=(i-(k+1))+1) (Z (Ot) e)⟩
theorem rV{c d:Type}[BEq c][LawfulBEq c]:∀{l:List (c×d)},(l.map (·.1)).Nodup->∀{x:c} {y:d},(x,y)∈l->l.lookup x=U y
 |(a,b)::r,n,x,y,h=>by
  simp only[Ln,K9] at n;simp only[LR];refine KS (KM.mp h) (λe=>?_) λh=>?_;·obtain⟨rfl,rfl⟩:=Lz e;simp
  ·have:(x==a)=false:=by refine iR beq_eq_false_iff_ne ?_;intro e;exact n.1 (Lo.mpr ⟨(x,y),h,e⟩)
   exact Z this (rV n.2 h)
theorem xc{f:List String}{fa:Lb}{F:Fn}(K:κ.K.In κ.base)(s:κ.gJ=f)(h:D4 κ.K f fa F n a=true)(B:yH κ.K fa=U (St.cP (B7 n) F.body a)):
  ∃o D b nm gl ps,zj κ fa F o D b nm gl ps:=by
 obtain⟨D,d,h⟩:=iD h;obtain⟨t,e,B⟩:=bG B;replace e:=d▸e
 (replace e:=KC e;subst e)
 obtain⟨o,u,hd⟩:=bG d;refine E6 h λv w z A G J M Q R j k c C l m=>?_;replace c:=of_decide_eq_true c;replace C:=of_decide_eq_true C;have L:((n.take F.params).map KD).length=F.params:=by(refine Z (KE _) (Z Mv ?_));exact OH (of_decide_eq_true k)
 have N:((n.take F.params).map KD).Nodup:=by exact Z Nv (c.sublist (List.take_sublist _ _))
 refine⟨o,D,a,B7 n,li f D.scope,(n.take F.params).map KD,K _ _ u,Cn hd,FO B,Os.mp v,beq_iff_eq.mp w,r1 z,r1 A,of_decide_eq_true G,of_decide_eq_true J,zo K M,λxs H=>Bf Q R (of_decide_eq_true j) N (Z L H),L,N,m,λi x I=>?_,λx i I=>?_,λx y i H r=>?_,λx H=>?_,Z s rfl,λx H=>?_⟩
 ·have S:(n.map KD)[i]? =U x:=by
   replace I:=(Ra)▸Nv▸I;split at I;·exact I
   ·exact al I
  have:=su c 0 i x S;rw[No] at this;exact this
 ·refine ay (jT 0 i x I) λ_ e=>aD (Lo.mp (Nf e)) λy r E=>?_;clear e I;subst E
  exact(Bool.or_eq_true_iff.mp (LS.mp l y r)).imp beq_iff_eq.mp beq_iff_eq.mp
 ·have g:=(jT 0 i x H).2
  replace g:=((jT 0 i y r).2)▸g;(replace g:=KC g;clear H;subst g);rfl
 ·obtain⟨p,P,rfl⟩:=Lo.mp (LZ.mp H)
  obtain⟨P,q⟩:=MA.mp P;exact Z (rV C (x:=p.1) (y:=p.2) P) (Z (beq_iff_eq.mp q) rfl)
 ·obtain⟨p,P,rfl⟩:=Lo.mp (LZ.mp H)
  obtain⟨P,q⟩:=MA.mp P;refine Z (rV C (x:=p.1) (y:=p.2) P) ?_;intro e;replace q:=(KC e)▸q;exact aK q
noncomputable def ko(C f:String):Option (List Char):=if(C++".").toList.isPrefixOf f.toList then U (f.toList.drop (C++".").toList.length) else KF
theorem sI(C m:String):ko C (C++"."++m)=U m.toList:=by unfold ko;exact Z (by simp:(C++"."++m).toList=(C++".").toList++m.toList) (Z (if_pos (by simp)) (Z List.drop_left rfl))
structure Tb where
 cls:List (String×Lb)
 fn:List (String×Lb)
 gJ:List String
 ops:Lb
 xX:Bool
noncomputable def FB(K:O0)(c:Lb):Bool:=plainGet K c ""&&hasDictIn K c&&plainOver K c&&Qc K (.ref c) "__setattr__"==U (U (.builtin "object.__setattr__"))
noncomputable def n7:List String->List KI->Bool
 |[],vs=>vs.isEmpty
 |x::l,vs=>(match vs with |[]=>false |v::r=>rL (KD x) v&&n7 l r)
noncomputable def rR:K4->List KI
 |⟨_,KF,.seq vs _,⟨[]⟩⟩=>vs.toList
 |_=>[]
noncomputable def tX(K:O0)(a:Lb)(l:List String):Bool:=(K.lookup a).any λo=>(o.cls==.type "tuple")&&n7 l (rR o)
noncomputable def yM(K:O0)(t:Tb)(p:String×Lb):Bool:=
 FB K p.2&&(Sj K (.ref p.2)&&(makesIn K p.2&&(nsIn K Mg (KD p.1)==U (U (.ref p.2))&&
  ((gB.all λf=>Qc K (.ref p.2) (KD f)==U KF&&takerIn K p.2 (KD f)==U KF)&&
  ((t.fn.all λq=>(ko p.1 q.1).all λm=>Qc K (.ref p.2) (KD (RJ m))==U (U (.ref q.2))&&isFn K (.ref q.2))&&
  (t.fn.lookup (p.1++".__init__")).isSome)))))
noncomputable def H5(K:O0)(x:KR)(f:KI->Bool):Bool:=(nsIn K Mg x).join.any f
noncomputable def rl(K:O0)(t:Tb)(bu:List (String×Fn×List String)):Bool:=
 t.cls.all (yM K t)&&
 ((t.gJ.all λf=>(t.fn.lookup f).any λfa=>nsIn K Mg (KD f)==U (U (.ref fa)))&&
 ((t.fn.all λq=>Sj K (.ref q.2))&&
 ((kD.all λC=>(t.cls.lookup C).isSome)&&
 ((K.lookup NJ).isSome&&
 ((["len","list","tuple","sorted","range","min","max","int","isinstance","dict","zip"].all λx=>nsIn K Mg (KD x)==U KF)&&
 (nsIn K Mg "VALUE_OPS"==U (U (.ref t.ops))&&(tX K t.ops ["num","bvnum","true","false"]&&
 (H5 K "BY_ARGUMENTS" (rL (KD "arguments"))&&(H5 K "BOOL" (u' 0)&&(!t.xX||H5 K "INT" (u' 1)))))))))))
noncomputable def Ct:V:=.aA [.str "num",.str "bvnum",.str "true",.str "false"]
noncomputable def G0(t:Tb)(x:String):Option V:=
 if x.toList.contains '.' then(if(t.fn.lookup x).isSome then U .none else KF) else
 if x="VALUE_OPS" then U Ct else if x="BY_ARGUMENTS" then U (.str "arguments") else if x="BOOL" then U (.int 0)
 else if x="INT"/\t.xX=true then U (.int 1) else KF
noncomputable def jS(t:Tb)(prog:L6)(w:MP)(K:O0)(h:Heap)(s:K2)(m M:KR->Option KI):dz:=
 ⟨prog,w,K,λC=>t.cls.lookup C,h,s.gens,s.os,λf=>t.fn.lookup f,m,M,t.gJ⟩
theorem Ja(h:Heap)(e:∃b o,h.get? b=U o):∃h':Heap,(∀b,h'.get? b=h.get? b)/\∃b o,h'.get? b=U o/\h'.objs.size<=b+1:=by
 have key:∀n:Nat,(∃(b:Nat) (o:K4),b<n/\h.get? b=U o)->∃(b:Nat) (o:K4),h.get? b=U o/\∀c:Nat,c<n->b<c->h.get? c=KF:=by
  intro n;induction n with
  |zero=>intro ⟨b,o,l,_⟩;cases l
  |succ n i=>
   intro ⟨b,o,l,e⟩;induction q:h.get? n with
   |some a=>exact⟨n,a,q,λc H d=>by omega⟩
   |none=>
    have:b≠n:=by rintro rfl;replace q:=e▸q;exact al q.symm
    refine eH (i ⟨b,o,by lia,e⟩) λB a E f=>⟨B,a,E,λc H d=>?_⟩;by_cases C:c=n;·exact Z C q
    ·exact f c (by lia) d
 refine g9 e λb o e=>eH (key h.objs.size ⟨b,o,Lh e,e⟩) λb o e f=>?_;have g:∀c:Nat,(⟨h.objs.extract 0 (b+1),h.life⟩:Heap).get? c=h.get? c:=by
  intro c;by_cases C:c<b+1
  ·unfold Ry
   have:(h.objs.extract 0 (b+1))[c]? =h.objs[c]? :=by refine Z (Array.getElem?_extract) ?_;have j:(b:Nat)<h.objs.size:=Lh e;exact Z (No _) (Z (Nat.sub_zero _) (Z (if_pos (by lia)) rfl))
   exact Z this rfl
  ·have H:(⟨h.objs.extract 0 (b+1),h.life⟩:Heap).get? c=KF:=by
    unfold Ry;have:(h.objs.extract 0 (b+1))[c]? =KF:=by rw[N'];simp;omega
    exact Z this rfl
   refine Z H ?_;induction q:h.get? c with
   |none=>rfl
   |some a=>replace q:=(f c (Lh q) (bM (gF _ _) 0x113781311378 rfl (RX C)))▸q;exact al q
 refine⟨_,g,b,o,(g b).trans e,((Z Array.size_extract ?_):(h.objs.extract 0 (b+1)).size<=b+1)⟩;lia
theorem uN{K:O0}{m:KR->Option KI}(k:K.In h)(M:h.Ns Mg m){f:KI->Bool}(c:H5 K x f=true):∃v,m x=U v/\f v=true:=by
 obtain⟨v,H,q⟩:=iD c;induction e:nsIn K Mg x with
 |none=>replace H:=e▸H;exact al H
 |some o=>replace H:=e▸H;cases (H:o=U v);exact⟨v,mg_of k M e,q⟩
theorem jX{ad:Ad}:∀{l:List String} {vs:List KI},n7 l vs=true->aF κ H ad h (l.map V.str) vs
 |[],vs,c=>by induction vs using Lx with
  |nil=>rfl
  |cons _ _=>exact aK c
 |x::l,vs,c=>by
  induction vs using Lx with
  |nil=>exact aK c
  |cons v r=>exact ay (bt c) λC a=>⟨v,r,rfl,rF C,jX a⟩
theorem Ck{o:K4}{l:List String}{x:String}(H:o.cls=.type "tuple")(h:n7 (x::l) (rR o)=true):∃vs n,o={cls:=.type "tuple",data:=.seq vs n}/\n7 (x::l) vs.toList=true:=by
 obtain⟨c,d,D,⟨k⟩⟩:=o;induction d with
 |some=>exact aK h
 |none=>
  induction D with
  |seq vs n=>
   induction k using Lx with
   |nil=>subst H;exact⟨_,_,rfl,h⟩
   |cons=>exact aK h
  |_=>exact aK h
theorem Eu{t:Tb}{K:O0}{h:Heap}(k:κ.base=h)(a:K.In h)(c:tX K t.ops ["num","bvnum","true","false"]=true){ad:Ad}{s':K2}(R:bf κ H ad s'):aJ κ H ad s'.heap Ct (.ref t.ops):=by
 subst k;obtain⟨o,d,c⟩:=iD c;obtain⟨C,c⟩:=bt c;refine eH (Ck (beq_iff_eq.mp C) c) λvs n E c=>?_;clear C c;clear c;subst E;have b:=a _ _ d;refine⟨t.ops,vs,n,rfl,⟨λ⟨r,f,e⟩=>?_,λz=>?_⟩,R.base _ _ b,?_,jX c⟩
 ·have:=R.new r f
  rw[e,b] at this;exact al this.symm
 ·have:=R.zb _ z
  rw[b] at this;exact al this.symm
 ·have:vs.size=4:=(jX (κ:=κ) (H:=H) (ad:=ad) (h:=s'.heap) c).length.symm
  refine Z this ?_;decide
theorem zu{v:V}(hx:jP.contains x=true)(e:G0 t x=U v):(x="VALUE_OPS"/\v=Ct)\/(x="BY_ARGUMENTS"/\v=.str "arguments")\/(x="BOOL"/\v=.int 0)\/(x="INT"/\v=.int 1/\t.xX=true):=by
 rcases KM.mp (LZ.mp hx) with rfl |hx
 ·exact .inl ⟨rfl,(KC (e:U Ct=U v)).symm⟩
 rcases KM.mp hx with rfl |hx
 ·exact .inr (.inl ⟨rfl,(KC (show U (V.str "arguments")=U v from e)).symm⟩)
 rcases KM.mp hx with rfl |hx
 ·exact .inr (.inr (.inl ⟨rfl,(KC (e:U (V.int 0)=U v)).symm⟩))
 rcases KM.mp hx with rfl |hx
 ·induction i:t.xX with
  |true=>have:G0 t "INT"=U (.int 1):=(show G0 t "INT"=if "INT"="INT"/\t.xX=true then U (.int 1) else KF from rfl).trans (if_pos ⟨rfl,i⟩);exact .inr (.inr (.inr ⟨rfl,(KC (this.symm.trans e)).symm,rfl⟩))
  |false=>have:G0 t "INT"=KF:=(show G0 t "INT"=if "INT"="INT"/\t.xX=true then U (.int 1) else KF from rfl).trans (if_neg λq=>by replace q:=i▸q;exact aK q.2);exact al (this.symm.trans e)
 ·exact(nomatch hx)
set_option tactic.hygienic true in
theorem J9{bu:List (String×Fn×List String)}{prog:L6}{w:MP}{K:O0}{s:K2}{G B:KR->Option KI}
  (c:rl K t bu=true)(k:K.In h)(M:h.Ns Mg G)(y:h.Ns OZ B)(N:h.NoLimit)(p:∃b o,h.get? b=U o/\h.objs.size<=b+1)
  (T:∀x:KR,x≠"__name__"->B x=bootBuiltins x):fK (jS t prog w K h s G B) (G0 t):=by
 refine y2 c λz D I J L n P Q S r j=>?_
 have n:=LS.mp n
 have l:∀C a,t.cls.lookup C=U a->yM K t (C,a)=true:=λC a e=>LS.mp z (C,a) (cz e)
 have E:∀C a m fa,t.cls.lookup C=U a->t.fn.lookup (C++"."++m)=U fa->Qc K (.ref a) (KD m)=U (U (.ref fa))/\isFn K (.ref fa)=true:=λC a m fa e F=>by
  have:=LS.mp (bt (bt (bt (bt (bt (bt (l C a e)).2).2).2).2).2).1 _ (cz F)
  simp only[sI] at this
  obtain⟨a,b⟩:=bt this
  rw[String.ofList_toList] at a
  exact⟨beq_iff_eq.mp a,b⟩
 refine⟨k,p,M,y,N,λC a e=>?_,λC a f e F=>?_,E,λf F=>?_,λf fa e=>LS.mp I _ (cz e),λC W=>?_,λC a e=>?_,λC a fa e F=>?_,?_,λb=>?_,⟨mg_none_of k M (beq_iff_eq.mp (n "zip" (by decide))),(T _ (by decide+kernel)).trans (by kernel_rfl)⟩,λC m v e=>?_,λx v X e=>?_⟩
 ·obtain⟨b,d⟩:=bt (bt (l C a e)).1
  obtain⟨b,f⟩:=bt b
  obtain⟨b,g⟩:=bt b
  exact⟨b,g,f,beq_iff_eq.mp d⟩
 ·obtain⟨a,b⟩:=bt (LS.mp (bt (bt (bt (bt (bt (l C a e)).2).2).2).2).1 f (LZ.mp F))
  exact⟨beq_iff_eq.mp a,beq_iff_eq.mp b⟩
 ·obtain⟨fa,A,q⟩:=iD (LS.mp D f (LZ.mp F))
  exact⟨fa,A,mg_of k M (beq_iff_eq.mp q)⟩
 ·obtain⟨a,u⟩:=LK.mp (LS.mp J C (LZ.mp W))
  obtain⟨fa,A⟩:=LK.mp (bt (bt (bt (bt (bt (bt (l C a u)).2).2).2).2).2).2
  exact⟨a,fa,u,A⟩
 ·obtain⟨d,q⟩:=bt (bt (l C a e)).2
  obtain⟨f,q⟩:=bt q
  exact⟨mg_of k M (beq_iff_eq.mp (bt q).1),d,f⟩
 ·have q:C++".__init__"=C++"."++"__init__":=by refine Z String.append_assoc ?_;rfl
  obtain⟨a,b⟩:=E C a "__init__" fa e (hR q F)
  exact⟨a,beq_iff_eq.mp b⟩
 ·obtain⟨o,ho⟩:=LK.mp L
  refine((Z (k _ _ ho) ?_):(h.get? NJ).isSome=true);rfl
 ·refine⟨mg_none_of k M (beq_iff_eq.mp (n b.name (by induction b<;>decide))),(T _ (by induction b<;>decide+kernel)).trans (by induction b<;>kernel_rfl)⟩
 ·unfold G0 at e
  rw[if_pos (by simp)] at e
  split at e
  ·rename_i hq
   exact LK.mp hq
  ·exact al e
 ·rcases zu X e with⟨rfl,rfl⟩ |⟨rfl,rfl⟩ |⟨rfl,rfl⟩ |⟨rfl,rfl,i⟩
  ·exact⟨_,mg_of k M (beq_iff_eq.mp P),λH ad s' R=>Eu rfl k Q R⟩
  ·exact aD (uN k M S) λv V q=>⟨v,V,λ_ _ _ _=>rF q⟩
  ·exact aD (uN k M r) λv V q=>⟨v,V,λ_ _ _ _=>vW q⟩
  ·rw[i] at j
   exact aD (uN k M j) λv V q=>⟨v,V,λ_ _ _ _=>vW q⟩
noncomputable def Hp.jA:Hp:=⟨λ_=>none,λ_=>0,0⟩
noncomputable def Gg(bu:List (String×Fn×List String))(f:String):Option Fn:=(bu.find? λp=>p.1==f).map (·.2.1)
noncomputable def vM(K:O0)(t:Tb)(i:String->List LH)(bu:List (String×Fn×List String)):Bool:=bu.all λp=>(t.fn.lookup p.1).any λfa=>D4 K t.gJ fa p.2.1 p.2.2 (i p.1)
noncomputable def uK(K:O0)(t:Tb)(bu:List (String×Fn×List String)):List (Option (List LH)):=bu.map λp=>(t.fn.lookup p.1).bind (yH K)
noncomputable def wP(i:String->List LH)(bu:List (String×Fn×List String)):List (Option (List LH)):=bu.map λp=>U (St.cP (B7 p.2.2) p.2.1.body (i p.1))
theorem rS{P:Params}{h:Heap}{vs:List KI}{N:List Int}(l:h.IsList a vs.toArray)(w:Well P h (.ref a) (ofPy (Qv (N.map On)))):
  h.get? a=U {cls:=.type "list",data:=.seq vs.toArray}:=by
 refine gc l λo H c r=>cV r λn hd=>?_;generalize X:ofPy (Qv (N.map On))=x at w;cases w with
 |list e _=>
  rw[H] at e
  (replace e:=KC e;subst e)
  clear r c;cases hd;exact H
 |_=>simp[ofPy] at X
theorem uR{ad:Ad}:∀{vs:List KI} {N:List Int},P4 vs N->aF κ H ad h (ae N) vs:=by
 intro vs N i;induction i with
 |nil=>rfl
 |cons n t r I=>exact⟨_,_,rfl,⟨t,rfl⟩,I⟩
theorem zP:∀{vs:List KI} {N:List Int},P4 vs N->vs.length=N.length:=by
 intro vs N i;induction i with
 |nil=>rfl
 |cons n t r I=>exact congrArg (·+1) I
theorem B0{i:String->List LH}{bu:List (String×Fn×List String)}{prog:L6}{w:MP}{K:O0}{s:K2}{m M:KR->Option KI}{fa a:Lb}{vs:List KI}{d:List Int}
  (c:rl K t bu=true)(f:vM K t i bu=true)(I:uK K t bu=wP i bu)(J:K.In s.heap)(hm:s.heap.Ns Mg m)(hb:s.heap.Ns OZ M)(hn:s.heap.NoLimit)
  (T:∀x:KR,x≠"__name__"->M x=bootBuiltins x)(g:m (KD "law")=U (.ref fa))(W:t.gJ.contains "law"=true)
  (L:s.heap.get? a=U {cls:=.type "list",data:=.seq vs.toArray})(Q:P4 vs d)(j:d.length<=63)
  (l:∃n,n<=60/\a5 (G0 t) (Gg bu) n "law" [.fl (ae d)] (λv _=>v=.bool true) Hp.jA):
  OY (K5 prog w) callerA (.call (.ref fa) ⟨[.ref a],[]⟩) (λr s'=>r=.ok (.ret (.bool true))/\(∀b o,s.heap.get? b=U o->s'.heap.get? b=U o)/\s'.os=s.os/\s'.gens=s.gens) s:=by
 refine aD (Ja s.heap ⟨_,_,L⟩) λh' V P=>?_;have k:∀b o,s.heap.get? b=U o->h'.get? b=U o:=λb o e=>(V b).trans e;have X:fK (jS t prog w K h' s m M) (G0 t):=J9 c (J.keeps k) (hm.keeps k) (hb.keeps k) (hn.keeps k) P T;have hT:∀u y,Gg bu u=U y->∃fa o D B nm gl ps,(jS t prog w K h' s m M).fn u=U fa/\zj (jS t prog w K h' s m M) fa y o D B nm gl ps:=λu y e=>by unfold Gg at e;refine aD (Oo.mp e) λp C E=>?_;clear e;subst E;have Z:=List.find?_some C;rw[beq_iff_eq] at Z;obtain⟨A,h,h2⟩:=iD (LS.mp f p (Qh C));have h3:=List.map_inj_left.mp I p (Qh C);rw[h] at h3;exact IW (xc (κ:=jS t prog w K h' s m M) (J.keeps k) rfl h2 h3) λo D B nm gl ps F=>⟨A,o,D,B,nm,gl,ps,hR Z h,F⟩
 refine aD l λn N l=>aD (s6 X hT n _ _ _ _ l) λA h CO=>?_;have e1:A=fa:=by refine aD (X.JE "law" W) λI H hg=>?_;replace H:=h▸H;(replace H:=KC H;subst H);have:m (KD "law")=U (.ref A):=hg;replace this:=g▸this;clear hg CO h;cases this;rfl
 clear g;subst e1;have R:bf (jS t prog w K h' s m M) Hp.jA ⟨λ_=>0,λ_=>False⟩ s:=
  ⟨λb o e=>(V b).symm.trans e,rfl,rfl,λr e=>(nomatch e),λr q e=>(nomatch e),λr e=>(nomatch e),λr o e=>(nomatch e),λa z=>z.elim,λa z=>z.elim,λa z=>z.elim⟩;have rx:aF (jS t prog w K h' s m M) Hp.jA ⟨λ_=>0,λ_=>False⟩ s.heap [.fl (ae d)] [.ref a]:=by
  refine⟨_,_,rfl,⟨a,vs.toArray,_,rfl,⟨λ⟨r,hr,_⟩=>(nomatch hr),λz=>z⟩,L,?_,uR Q⟩,rfl⟩;have:vs.toArray.size<=63:=by simp[(zP Q:vs.length=d.length),j]
  exact KB this (by decide)
 refine Og (CO [.ref a] _ s callerA (λ_ _=>False) ⟨rfl,?_,((bM (kT _) 0x13c412764443026ac564473c4 rfl N):4+100*n+60<=9900)⟩ rx R) ?_
 ·refine(?_ :1+claimMargin+3*n+1<=900)
  have:claimMargin<=600:=by decide
  exact bM (gF _ _) 0x1131283317130038453383c4137002585 rfl N this
 ·intro r s' p
  induction r with
  |error=>exact p.elim
  |ok r=>
  induction r with
  |ret v=>obtain⟨ad',H',v',hv,rv,G,S⟩:=p;subst hv;obtain rfl:v=.bool true:=rv;exact⟨rfl,λb o e=>G.base b o (k b o e),G.os,G.gens⟩
  |_=>exact p.elim
end ai
namespace ai.L1
open PySem PyProof.Rows
noncomputable def xr:Tb:=⟨[("Congruence",352),("Bank",569)],[("Congruence.__init__",65),("Congruence.are_equal",86),("Congruence.cause_apart",100),("Congruence.classes",114),("Congruence.conflict",121),("Congruence.inner",128),("Congruence.add_term",133),("Congruence.enter",138),("Congruence.signature",143),("Congruence.look_up",150),("Congruence.merge",157),("Congruence.close",164),("Congruence.join",171),("Congruence.note_clash",178),("Congruence.lengths",185),("Congruence.take_off",192),("Congruence.torn",199),("Congruence.with_reason",206),("Congruence.hang",213),("Congruence.turn",220),("Congruence.edges_between",227),("Congruence.explain",234),("Congruence.separate",241),("Congruence.parted_by",248),("Congruence.explain_cause",262),("Congruence.joined",267),("Congruence.watch",274),("Congruence.place_watch",281),("Congruence.tell_class",288),("Congruence.tell",295),("Congruence.implied",302),("Congruence.explain_told",309),("Congruence.push_level",316),("Congruence.pop_levels",321),("Congruence.undo",328),("Congruence.leave",335),("Congruence.part",342),("Congruence.unwatch",349),("Bank.__init__",370),("Bank.declare_fun",412),("Bank.fresh_const",426),("Bank.op",461),("Bank.args",468),("Bank.sort",475),("Bank.data",482),("Bank.make",503),("Bank.true_term",538),("_law_next",580),("_law_terms",585),("_law_closed",590),("_law_is_apart",595),("_law_standing",602),("_law_clashes",607),("_law_is_good",612),("_law_noted",619),("_law_asked",626),("_law_taken_back",633),("_law_done",640),("_law_watched",647),("law",652)],["_law_next","_law_terms","_law_closed","_law_is_apart","_law_standing","_law_clashes","_law_is_good","_law_noted","_law_asked","_law_taken_back","_law_done","_law_watched","law"],51,true⟩
end ai.L1
namespace ai
open PySem PySem.W PyProof.Rows PySem.SeqAt
inductive BT where
 |leaf
 |kx (o:K4) (l r:BT)
noncomputable def yo{a:Type}(b:Bool)(x y:a):a:=Bool.rec (motive:=λ_=>a) y x b
noncomputable def HS{c a:Type}(b:Option c)(x:a)(y:c->a):a:=Option.rec (motive:=λ_=>a) x y b
noncomputable def BT.get(t:BT):Nat->Option K4:=
 BT.rec (motive:=λ_=>Nat->Option K4) (λ_=>none)
  (λo _ _ g G i=>QH (motive:=λ_=>Option K4) (U o) (λj _=>yo (Lk (j %2) 0) (g (j/2)) (G (j/2))) i) t
noncomputable def BT.r0(t:BT):Nat->K4->BT:=
 BT.rec (motive:=λ_=>Nat->K4->BT) (λ_ o=>.kx o .leaf .leaf)
  (λa l r I R i o=>QH (motive:=λ_=>BT) (.kx o l r) (λj _=>yo (Lk (j %2) 0) (.kx a (I (j/2) o) r) (.kx a l (R (j/2) o))) i) t
theorem BT.AD(k:Nat):BT.leaf.get k=none:=rfl
theorem BT.Gu(o:K4)(l r:BT):(BT.kx o l r).get 0=U o:=rfl
theorem BT.fc(o:K4)(l r:BT){j:Nat}(h:j %2=0):(BT.kx o l r).get (j+1)=l.get (j/2):=by refine(?_ :yo (Lk (j %2) 0) _ _=_);rw[h];rfl
theorem BT.gY(o:K4)(l r:BT){j:Nat}(h:j %2=1):(BT.kx o l r).get (j+1)=r.get (j/2):=by refine(?_ :yo (Lk (j %2) 0) _ _=_);rw[h];rfl
theorem BT.Az(a:K4)(l r:BT)(o:K4){j:Nat}(h:j %2=0):(BT.kx a l r).r0 (j+1) o=.kx a (l.r0 (j/2) o) r:=by refine(?_ :yo (Lk (j %2) 0) _ _=_);rw[h];rfl
theorem BT.B9(a:K4)(l r:BT)(o:K4){j:Nat}(h:j %2=1):(BT.kx a l r).r0 (j+1) o=.kx a l (r.r0 (j/2) o):=by refine(?_ :yo (Lk (j %2) 0) _ _=_);rw[h];rfl
theorem BT.mO:∀(t:BT) (i:Nat) (o:K4),(∀k,k<i->(t.get k).isSome=true)->∀k,(t.r0 i o).get k=if k=i then U o else t.get k
 |.leaf,i,o,h,k=>by
  have:i=0:=by
   induction i using MG with
   |zero=>rfl
   |succ i=>exact PE (h 0 (MR _))
  subst this;induction k using MG with
  |zero=>rfl
  |succ k=>rw[if_neg (RV _)];exact KS (MK k) (λe=>BT.fc _ _ _ e) λe=>BT.gY _ _ _ e
 |.kx a l r,0,o,h,k=>by
  induction k using MG with
  |zero=>rfl
  |succ k=>
   rw[if_neg (RV _)];show(BT.kx o l r).get (k+1)=_;refine KS (MK k) (λe=>?_) λe=>?_;·rw[BT.fc _ _ _ e,BT.fc _ _ _ e]
   ·rw[BT.gY _ _ _ e,BT.gY _ _ _ e]
 |.kx a l r,j+1,o,h,k=>by
  refine KS (MK j) (λe=>?_) λe=>?_
  ·rw[BT.Az _ _ _ _ e]
   have I:=BT.mO l (j/2) o λk H=>by have:=h (2*k+1) (by omega);rw[BT.fc _ _ _ (by omega),(by omega:2*k/2=k)] at this;exact this
   induction k using MG with
   |zero=>rfl
   |succ m=>
    refine KS (MK m) (λE=>?_) λE=>?_
    ·rw[BT.fc _ _ _ E,BT.fc _ _ _ E,I]
     by_cases q:m=j;·rw[if_pos (by omega),if_pos (by omega)]
     ·rw[if_neg (by omega),if_neg (by omega)]
    ·rw[BT.gY _ _ _ E,BT.gY _ _ _ E,if_neg (by omega)]
  ·rw[BT.B9 _ _ _ _ e]
   have I:=BT.mO r (j/2) o λk H=>by have:=h (2*k+2) (by omega);rw[BT.gY _ _ _ (by omega),(by omega:(2*k+1)/2=k)] at this;exact this
   induction k using MG with
   |zero=>rfl
   |succ m=>
    refine KS (MK m) (λE=>?_) λE=>?_;·rw[BT.fc _ _ _ E,BT.fc _ _ _ E,if_neg (by omega)]
    ·rw[BT.gY _ _ _ E,BT.gY _ _ _ E,I]
     by_cases q:m=j;·rw[if_pos (by omega),if_pos (by omega)]
     ·rw[if_neg (by omega),if_neg (by omega)]
noncomputable def BT.mh(t:BT)(n:Nat):List K4->List K4:=
 QH (motive:=λ_=>List K4->List K4) (λacc=>acc) (λk i acc=>HS (t.get k) (i acc) (λo=>i (o::acc))) n
theorem BT.w3{t:BT}{l:List K4}:∀(n:Nat) (acc:List K4),(∀k,k<n->t.get k=l[k]?)->n<=l.length->t.mh n acc=l.take n++acc
 |0,acc,_,_=>rfl
 |n+1,acc,h,H=>by have e:=h n (LU _);rw[LV (by exact ai.bM (ai.gF _ _) 0x113781311378 rfl H)] at e;refine(?_ :HS (t.get n) _ _=_);rw[e];show t.mh n (l[n]::acc)=_;rw[BT.w3 n _ (λk K=>h k (by exact ai.bM (ai.gF _ _) 0x113711381311378 rfl K)) (by exact Lq ‹_›),Pu (by assumption),K7];rfl
noncomputable def BT.of(l:List K4):BT->Nat->BT:=
 TV (motive:=λ_=>BT->Nat->BT) (λt _=>t) (λo _ i t n=>i (t.r0 n o) (O2 n)) l
structure gb(T:BT)(n:Nat)(xs:Array K4):Prop where
 size:xs.size=n
 get:∀k,T.get k=xs[k]?
theorem gb.push{T:BT}{n:Nat}(F:gb T n xs)(o:K4):gb (T.r0 n o) (O2 n) (xs.push o):=by refine⟨by rw[PM,F.size],λk=>?_⟩;rw[BT.mO _ _ _ (λk h=>by rw[F.get,Mp (by rw[F.size];exact h)];rfl),F.get,Array.getElem?_push,F.size]
theorem gb.modify{T:BT}{n:Nat}(F:gb T n xs){a:Nat}{o:K4}(h:T.get a=U o)(f:K4->K4):gb (T.r0 a (f o)) n (xs.modify a f):=by
 refine⟨by rw[Array.size_modify,F.size],λk=>?_⟩;have H:a<xs.size:=by rw[F.get] at h;exact(P7.mp h).1
 rw[BT.mO _ _ _ (λk K=>by rw[F.get,Mp (by exact ai.bM (ai.ip _ _ _) 0x1137813113981311379 rfl H K)];rfl),F.get,Array.getElem?_modify];by_cases q:k=a
 ·clear H;subst q
  rw[if_pos rfl,if_pos rfl,<-F.get,h];rfl
 ·rw[if_neg q,if_neg (λe=>q e.symm)]
theorem gb.q6:∀(l:List K4) (T:BT) (n:Nat) (xs:Array K4),gb T n xs->gb (BT.of l T n) (n+l.length) (xs++l.toArray)
 |[],T,n,xs,F=>by dsimp only[Nx,Nat.add_zero,Array.append_empty];exact F
 |o::r,T,n,xs,F=>by rw[show n+(o::r).length=O2 n+r.length by simp;exact L2 (ai.bM (ai.gF _ _) 0x111387181137 rfl) (ai.bM (ai.gF _ _) 0x181137111387 rfl),show xs++(o::r).toArray=xs.push o++r.toArray by simp];exact(gb.q6 r _ _ _ (F.push o))
theorem gb.jA:gb .leaf 0 #[]:=⟨rfl,λk=>by simp only[BT.AD];rfl⟩
theorem gb.mh{T:BT}{n:Nat}(F:gb T n xs):(⟨T.mh n []⟩:Array K4)=xs:=by
 have:T.mh n []=xs.toList:=by rw[BT.w3 (l:=xs.toList) n [] (λk _=>by rw[F.get];simp) (by simp[F.size]),K8,NF (by simp[F.size])]
 rw[this]
noncomputable def BT.fk(t:BT)(a:Nat):Option K4:=match t.get a with
 |some ⟨_,_,.freed,_⟩=>none
 |o=>o
theorem gb.fk{T:BT}{n:Nat}{h:Heap}(F:gb T n h.objs)(a:Nat):h.get? a=T.fk a:=by
 unfold Ry BT.fk;rw[F.get];induction h.objs[a]?with
 |none=>rfl
 |some o=>
  induction o with
  |mk c d x s=>induction x<;>rfl
theorem AG{T:BT}{o:K4}(e:T.fk a=U o):T.get a=U o:=by
 induction h:T.get a with
 |none=>unfold BT.fk at e;replace e:=h▸e;cases e
 |some q=>
  unfold BT.fk at e;replace e:=h▸e;induction q with
  |mk c d x s=>clear h;induction x<;>first |exact e |cases e
noncomputable def wi{c b:Type}(g:c->(c->b)->b)(l:List c):(List c->b)->b:=
 TV (motive:=λ_=>(List c->b)->b) (λk=>k []) (λa _ i k=>g a λA=>i λr=>k (A::r)) l
theorem kQ{b c:Type}{g:b->(b->c)->c}(h:∀a k,g a k=k a):∀(l:List b) (k:List b->c),wi g l k=k l
 |[],_=>rfl
 |a::r,k=>(h a _).trans (kQ h r _)
noncomputable def B5{a:Type}(n:Nat)(k:Nat->a):a:=QH (motive:=λ_=>a) (k 0) (λm _=>k (O2 m)) n
theorem Cb{a:Type}(n:Nat)(k:Nat->a):B5 n k=k n:=by induction n<;>rfl
noncomputable def GM{d:Type}(e:Mt)(k:Mt->d):d:=DictEntry.rec (motive:=λ_=>d) (λa b c=>k ⟨a,b,c⟩) e
theorem CY{a:Type}(e:Mt)(k:Mt->a):GM e k=k e:=by induction e;rfl
noncomputable def DJ{a:Type}(d:TD)(k:TD->a):a:=match d with
 |.dict es n=>wi GM es.toList λl=>k (.dict ⟨l⟩ n)
 |.seq xs n=>wi (λx k=>k x) xs.toList λl=>k (.seq ⟨l⟩ n)
 |.fields xs=>wi (λx k=>k x) xs.toList λl=>k (.fields ⟨l⟩)
 |d=>k d
theorem Aa{a:Type}(d:TD)(k:TD->a):DJ d k=k d:=by
 induction d with
 |dict es n=>exact kQ CY _ λl=>k (.dict ⟨l⟩ n)
 |seq xs n=>exact kQ (λ_ _=>rfl) _ λl=>k (.seq ⟨l⟩ n)
 |fields xs=>exact kQ (λ_ _=>rfl) _ λl=>k (.fields ⟨l⟩)
 |_=>rfl
noncomputable def xJ{a:Type}(o:K4)(k:K4->a):a:=match o with
 |⟨c,d,x,s⟩=>DJ x λX=>k ⟨c,d,X,s⟩
theorem we{a:Type}(o:K4)(k:K4->a):xJ o k=k o:=by obtain⟨c,d,x,s⟩:=o;exact Aa x λX=>k ⟨c,d,X,s⟩
noncomputable abbrev tN:=Fast.tw8437177126325714943 (Fast.tw11892475500146522536 PY)
theorem Bh:step (Tu NN)=tN:=by unfold tN;simp only[<-Fast.te8437177126325714943,<-Fast.te11892475500146522536,<-PZ]
def sG(h:Heap):SU->Prop
 |.go s' _=>s'.heap=h
 |.halt _ _=>True
theorem q1{c:Prop}[Decidable c](p:sG h a)(q:sG h b):sG h (if c then a else b):=by split<;>assumption
noncomputable def sF:SV Fin->Bool
 |.update .. |.alloc .. =>false
 |_=>true
set_option tactic.hygienic true in
theorem oL{d:Code->SV Fin}{s:K2}{t:Qd}(h:sF t.cur=true):sG s.heap (step d p w s t):=by
 obtain⟨C,code,pos,MT⟩:=t
 cases C
 all_goals try exact rfl
 all_goals try exact trivial
 case update=>exact PE h
 case alloc=>exact PE h
 all_goals try exact q1 trivial trivial
 all_goals try exact q1 trivial rfl
 case pure f=>
  cases f with
  |again c=>exact rfl
  |done f=>clear h;cases MT with
   |nil=>exact q1 trivial trivial
   |cons fr r=>cases fr<;>exact rfl
 case raise f=>
  cases MT with
   |nil=>exact q1 trivial trivial
   |cons fr r=>clear h;cases fr<;>exact rfl
 case load a x k=>
  conv=>arg 2;whnf
  cases s.heap.get? a<;>first |exact rfl |exact trivial
 case genState a x=>
  conv=>arg 2;whnf
  cases s.gens[a]? <;>first |exact rfl |exact trivial
 case resume g r l k=>
  conv=>arg 2;whnf
  cases s.gens[g]?with
  |none=>exact trivial
  |some st=>
   induction st
   all_goals try exact rfl
   induction r with
   |throw=>exact rfl
   |send v=>clear h;induction v<;>exact rfl
 case yield=>
  conv=>arg 2;whnf
  cases splitAtGen MT<;>first |exact rfl |exact trivial
noncomputable def run(p:L6)(w:MP)(N:Nat)(A:Option KI)(l:Life)(n:Nat):BT->Nat->Array RR->Drawn->Nat->SF->Qd->Option K2:=
 QH (motive:=λ_=>BT->Nat->Array RR->Drawn->Nat->SF->Qd->Option K2) (λ_ _ _ _ _ _ _=>KF) (λ_ i T m g d tk os t=>match through t with
  |true=>U ⟨⟨⟨T.mh m []⟩,l⟩,g,d,tk,os⟩
  |false=>match stepOk N A t with
   |false=>KF
   |true=>match t with
    |⟨c,code,pos,MT⟩=>match c with
     |.load a _ k=>(match T.fk a with
      |some o=>i T m g d tk os ⟨k o,code,pos,MT⟩
      |none=>KF)
     |.update a _ f k=>(match T.fk a with
      |some o=>xJ (f o) λb=>i (T.r0 a b) m g d tk os ⟨k (),code,pos,MT⟩
      |none=>KF)
     |.alloc o k=>xJ o λb=>B5 m λM=>i (T.r0 M b) (O2 M) g d tk os ⟨k M,code,pos,MT⟩
     |c=>(match tN p w ⟨⟨⟨T.mh m []⟩,l⟩,g,d,tk,os⟩ ⟨c,code,pos,MT⟩ with
      |.go ⟨_,g',D,K,s⟩ e=>i T m g' D K s e
      |.halt _ _=>KF)) n
theorem zz(p:L6)(w:MP)(N:Nat)(A:Option KI)(l:Life)(n:Nat)(T:BT)(m:Nat)(g:Array RR)(d:Drawn)(tk:Nat)(os:SF)(c:SV Fin)(code:Code)(pos:P9)(MT:List Frame):
  run p w N A l (n+1) T m g d tk os ⟨c,code,pos,MT⟩=(match through (⟨c,code,pos,MT⟩:Qd) with
  |true=>U ⟨⟨⟨T.mh m []⟩,l⟩,g,d,tk,os⟩
  |false=>match stepOk N A (⟨c,code,pos,MT⟩:Qd) with
   |false=>KF
   |true=>match c with
     |.load a _ k=>(match T.fk a with
      |some o=>run p w N A l n T m g d tk os ⟨k o,code,pos,MT⟩
      |none=>KF)
     |.update a _ f k=>(match T.fk a with
      |some o=>xJ (f o) λb=>run p w N A l n (T.r0 a b) m g d tk os ⟨k (),code,pos,MT⟩
      |none=>KF)
     |.alloc o k=>xJ o λb=>B5 m λM=>run p w N A l n (T.r0 M b) (O2 M) g d tk os ⟨k M,code,pos,MT⟩
     |c=>(match tN p w ⟨⟨⟨T.mh m []⟩,l⟩,g,d,tk,os⟩ ⟨c,code,pos,MT⟩ with
      |.go ⟨_,g',D,t,s⟩ e=>run p w N A l n T m g' D t s e
      |.halt _ _=>KF):Option K2):=rfl
theorem nE(p:L6)(w:MP)(N:Nat)(A:Option KI):∀(n:Nat) (T:BT) (m:Nat) (s:K2) (t:Qd),gb T m s.heap.objs->
  Rh NN p w N A n s t=run p w N A s.heap.life n T m s.gens s.drawn s.toks s.os t
 |0,_,_,_,_,_=>rfl
 |n+1,T,m,⟨⟨xs,l⟩,g,d,tk,os⟩,⟨c,code,pos,MT⟩,F=>by
  have G:sF c=true->(match step (Tu NN) p w ⟨⟨xs,l⟩,g,d,tk,os⟩ ⟨c,code,pos,MT⟩ with
    |.go s' b=>Rh NN p w N A n s' b
    |.halt _ _=>KF)=(match tN p w ⟨⟨⟨T.mh m []⟩,l⟩,g,d,tk,os⟩ ⟨c,code,pos,MT⟩ with
      |.go ⟨_,g',D,K,S⟩ b=>run p w N A l n T m g' D K S b
      |.halt _ _=>KF):=by
   intro H;rw[F.mh,<-Bh];induction e:step (Tu NN) p w ⟨⟨xs,l⟩,g,d,tk,os⟩ ⟨c,code,pos,MT⟩ with
   |halt _ _=>rfl
   |go s' b=>obtain⟨h',g',D,K,S⟩:=s';have:sG ⟨xs,l⟩ (step (Tu NN) p w ⟨⟨xs,l⟩,g,d,tk,os⟩ ⟨c,code,pos,MT⟩):=oL H;replace this:=e▸this;cases ((this:h'=⟨xs,l⟩));exact nE p w N A n T m ⟨⟨xs,l⟩,g',D,K,S⟩ b F
  unfold Rh;refine Z (zz p w N A l n T m g d tk os c code pos MT) ?_;induction through (⟨c,code,pos,MT⟩:Qd) with
  |true=>exact Z F.mh rfl
  |false=>
   induction stepOk N A (⟨c,code,pos,MT⟩:Qd) with
   |false=>rfl
   |true=>
    induction c with
    |load a x k=>
     refine(?_ :(match(match(⟨xs,l⟩:Heap).get? a with
      |some o=>Step.go ⟨⟨xs,l⟩,g,d,tk,os⟩ ⟨k o,code,pos,MT⟩
      |none=>Step.halt (.stuck (if a<xs.size then "load: the object has been freed" else "load: no object at this address")) ⟨⟨xs,l⟩,g,d,tk,os⟩) with
      |.go s' b=>Rh NN p w N A n s' b
      |.halt _ _=>KF)=(match T.fk a with
      |some o=>run p w N A l n T m g d tk os ⟨k o,code,pos,MT⟩
      |none=>KF));rw[F.fk (h:=⟨xs,l⟩)];induction T.fk a with
     |none=>rfl
     |some o=>exact nE p w N A n T m ⟨⟨xs,l⟩,g,d,tk,os⟩ _ F
    |update a x f k=>
     refine(?_ :(match(if((⟨xs,l⟩:Heap).get? a).isSome=true then Step.go ⟨(⟨xs,l⟩:Heap).update a f,g,d,tk,os⟩ ⟨k (),code,pos,MT⟩
      else Step.halt (.stuck "update: no object at this address, or it has been freed") ⟨⟨xs,l⟩,g,d,tk,os⟩) with
      |.go s' b=>Rh NN p w N A n s' b
      |.halt _ _=>KF)=(match T.fk a with
      |some o=>xJ (f o) λi=>run p w N A l n (T.r0 a i) m g d tk os ⟨k (),code,pos,MT⟩
      |none=>KF));rw[F.fk (h:=⟨xs,l⟩)];induction e:T.fk a with
     |none=>rfl
     |some o=>exact(nE p w N A n _ m ⟨⟨xs.modify a f,l⟩,g,d,tk,os⟩ _ (F.modify (AG e) f)).trans (we (f o) λi=>run p w N A l n (T.r0 a i) m g d tk os ⟨k (),code,pos,MT⟩).symm
    |alloc o k=>refine Rd (?_ :Rh NN p w N A n ⟨⟨xs.push o,l⟩,g,d,tk,os⟩ ⟨k xs.size,code,pos,MT⟩=_) ((Cb m _).symm.trans (we o λi=>B5 m λM=>run p w N A l n (T.r0 M i) (O2 M) g d tk os ⟨k M,code,pos,MT⟩).symm);rw[(F.size:xs.size=m)];exact nE p w N A n _ _ ⟨⟨xs.push o,l⟩,g,d,tk,os⟩ _ (F.push o)
    |_=>exact G rfl
noncomputable def Ar(p:L6)(w:MP)(N:Nat):Option K2:=
 ((Fast.tw10274390034422433532 PY (opening p) w N (P8 (opening p)).1 (P8 (opening p)).2).bind (Fast.tw14289696077712309145 p)).bind λs=>
  match s.heap.isNs Mg&&s.gens.size==0 with
  |true=>(run p w s.heap.objs.size (s.heap.nsMap Mg "__annotations__") s.heap.life N (BT.of s.heap.objs.toList .leaf 0) s.heap.objs.size s.gens s.drawn s.toks s.os (topStub p)).bind λS=>match staticsOk (Te p.main.body) s.heap S.heap&&namesBound p S.heap&&gensDone S&&laidKept s.heap S.heap with
    |true=>U S
    |false=>KF
  |false=>KF
theorem Bl(p:L6)(w:MP)(N:Nat):openEnds NN p w N=Ar p w N:=by
 delta openEnds fencedOpening topFrom Ar;simp only[<-Fast.te10274390034422433532,<-PZ,<-Fast.te1435165496053646825,<-Fast.te14289696077712309145];congr 1;funext s;have F:gb (BT.of s.heap.objs.toList .leaf 0) s.heap.objs.size s.heap.objs:=by simpa using(gb.q6 s.heap.objs.toList _ _ _ gb.jA)
 simp only[nE p w _ _ N _ _ s _ F];rfl
noncomputable def vJ(as:List Lb)(h:Heap):O0:=as.filterMap λa=>((BT.of h.objs.toList .leaf 0).fk a).map λo=>(a,o)
set_option tactic.hygienic true in
theorem xa(as:List Lb)(h:Heap):(vJ as h).In h:=by
 have F:gb (BT.of h.objs.toList .leaf 0) h.objs.size h.objs:=by
  have:=gb.q6 h.objs.toList _ _ _ gb.jA
  simpa using this
 intro a o e
 have:∀l:List Lb,(l.filterMap λa=>((BT.of h.objs.toList .leaf 0).fk a).map λo=>(a,o)).lookup a=U o->h.get? a=U o:=by
  intro l
  induction l with
  |nil=>intro e;cases e
  |cons p r i=>
   intro e
   rw[Lg] at e
   cases q:(BT.of h.objs.toList .leaf 0).fk p with
   |none=>rw[q] at e;exact i e
   |some b=>
    rw[q] at e
    simp only[Nr,LR] at e
    split at e
    ·rename_i H
     rw[beq_iff_eq] at H
     rw[H,F.fk,q];exact e
    ·exact i e
 exact this as e
noncomputable def p8(x:KR):List LH->List LH
 |[]=>[]
 |s::r=>(match s with
  |.FunctionDef y _ b _ _ _ _ _ _ _=>if y==x then b else p8 x r
  |.ClassDef y _ _ b _ _ _ _ _ _ _=>if y==x then b else p8 x r
  |_=>p8 x r)
noncomputable def Ec(s:List LH)(n:String):List LH:=
 match kD.findSome? λc=>(ko c n).map λm=>(c,m) with
 |some p=>p8 (KD (RJ p.2)) (p8 (KD p.1) s)
 |none=>p8 (KD n) s
noncomputable def gP(as:List Lb)(t:Tb)(i:String->List LH)(bu:List (String×Fn×List String)):Hook where
 α:=Bool×List (Option (List LH))
 obs s:=(λK=>(rl K t bu&&vM K t i bu,uK K t bu)) (vJ as s.heap)
 val _:=(true,wP i bu)
 says _ h:=∃K:O0,K.In h/\rl K t bu=true/\vM K t i bu=true/\uK K t bu=wP i bu
 of w s e:=⟨vJ as s.heap,xa _ _,(bt (Lz e).1).1,(bt (Lz e).1).2,(Lz e).2⟩
 keeps w h h':=λ⟨K,a,b⟩ k=>⟨K,a.keeps k,b⟩
end ai
namespace ai.L1
open PySem PySem.W PyProof.Rows PySem.SeqAt
noncomputable def DA:List Lb:=[Mg,352,569,351,568,NJ,51]++xr.fn.map (·.2)++xr.fn.map (·.2-1)
abbrev pw:=Sp
noncomputable def rY:String->List LH:=Ec pw.main.body
noncomputable def q:L6:=view pw [24]
noncomputable def loose:List KR:=["_wall","SmtError","VALUE_OPS","BY_ARGUMENTS","Congruence","BOOL","INT","Bank","_law_next","_law_terms","_law_closed","_law_is_apart","_law_standing","_law_clashes","_law_is_good","_law_noted","_law_asked","_law_taken_back","_law_done","_law_watched"]
section
set_option maxHeartbeats 8000000
set_option maxRecDepth 100000
theorem dS:(defOf q (KD "law")).isSome=true:=by kernel_rfl
noncomputable def dk:DefRec×List (KR×KN):=(defOf q (KD "law")).get dS
theorem left:LeftO pw q loose (λ_=>true) (gP DA xr rY bu).obs (gP DA xr rY bu).val 7300:=by intro w;rw[Bl];revert w;show∀w:MP,(Ar pw w 7300).map (λs=>(openSeen q loose (Te pw.main.body) (λ_=>true) true s,(gP DA xr rY bu).obs s))=U (openGood q loose,true,wP rY bu);intro w;kernel_rfl
theorem IV:Mr.wellSaid=true:=by kernel_rfl
end
section
set_option backward.match.sparseCases true
set_option maxHeartbeats 8000000
set_option maxRecDepth 100000
set_option tactic.hygienic true in
theorem J'(HW:∀S:List Int,S.length<=63->∃n,n<=60/\a5 (G0 xr) (Gg bu) n "law" [.fl (ae S)] (λv _=>v=.bool true) Hp.jA):Mr.Holds:=by
 refine holds_law IV λD=>?_
 refine holds_open (q:=q) (loose:=loose) (Xt:=λ_=>true) (XP:=λ_ _=>True) (Yf:=(gP DA xr rY bu).obs) (Ya:=(gP DA xr rY bu).val) (YP:=(gP DA xr rY bu).says) (d:=dk.1) (kwd:=dk.2) (N:=7300)
  left (gP DA xr rY bu).of (gP DA xr rY bu).keeps (λ_ _=>trivial) (λ_ _ _ _ _=>trivial) ?_ ?_ ?_ ?_ ?_ D ?_ ?_ ?_ ?_
 ·exact(Option.some_get dS).symm
 ·kernel_rfl
 ·kernel_rfl
 ·exact λs _=>recFacts_of (by rfl)
 ·kernel_rfl
 ·kernel_rfl
 ·exact⟨rfl,rfl,rfl,rfl,rfl,by kernel_rfl⟩
 ·exact⟨[.list []],by decide+kernel,by decide+kernel⟩
 ·intro w p t P Q G aa fa o R V C X Z ho hd u hD g x args vals as H y i l j
  have k:=(pre_splitW H).1
  have h:=(pre_splitW H).2
  wrow_hasAll k y
  wrow_readAll i l j
  rename_i S _ _ _ _ _ _ _ a vs _ z _ W _ I _
  have c:S.length<=63:=by
   by_cases q:63<S.length
   ·exfalso
    have:WTm.holds Mr.row.records Mr.row.pre {args:=[ofPy (Qv (Nw On S))]}=false:=by
     have e:decide ((63:Int)<((ofPys (Nw On S)).length:Nat))=true:=by
      rw[ofPys_eq,KE,KE]
      exact decide_eq_true (by omega)
     show(match(match(match(U (decide ((63:Int)<((ofPys (Nw On S)).length:Nat)))).map PX with
      |some (.bool b)=>U (PX (!b))
      |_=>KF) with
      |some (.bool false)=>U (PX false)
      |some (.bool true)=>U (PX true)
      |_=>KF) with
      |some (.bool true)=>true
      |_=>false)=false
     rw[e]
     rfl
    rw[this] at h;cases h
   ·omega
  obtain⟨K,A,B,E,F⟩:=aa
  have T:=G.T
  have L:=rS z W
  have nm:dk.1.name=KD "law":=by kernel_rfl
  rw[nm] at g
  refine enter_call (Og (B0 (prog:=Mr.row.prog) (w:=w) B E F A T.g T.b T.nolimit T.builtins g (by kernel_rfl) L I c (HW S c)) ?_)
  rintro r s' ⟨rfl,J,m,f⟩
  refine GoodW.toG ⟨.inl ⟨_,_,_,rfl,λ_=>rfl,.bool true,?_,λ_=>⟨Mk,λa M=>nomatch M⟩⟩,J,m,f.trans x⟩
  kernel_rfl
end
end ai.L1
namespace ai
theorem V.ref.inj{r q:cq}(e:V.ref r=.ref q):r=q:=by cases e;rfl
inductive AO where
 |list (xs:List V)
 |dI (u:List Int) (f:Int->Option V)
 |dP (u:List (List Int)) (f:List Int->Option V)
 |dS (es:List (String×V))
 |dN (es:List (bQ×V))
def AO.Is:AO->Obj->Prop
 |.list xs,x=>x=.list xs
 |.dS es,x=>x=.dS es
 |.dN es,x=>x=.dN es
 |.dI u f,x=>∃es,x=.dI es/\(es.map (·.1)).Nodup/\(∀i,(bc es i).isSome=true->i∈u)/\u.length<900/\∀i,bc es i=f i
 |.dP u f,x=>∃es,x=.dP es/\(es.map (·.1)).Nodup/\(∀i,(bc es i).isSome=true->i∈u)/\u.length<900/\∀i,bc es i=f i
structure AH where
 st:Nat->Int->Nat
 o:Nat->Int->Option AO
 vr:Nat->Int->Nat
 nn:Nat
end ai
namespace ai.AH
noncomputable def R(A:AH)(k:Nat)(t:Int):cq:=⟨k,t,A.st k t⟩
noncomputable def set(A:AH)(k:Nat)(t:Int)(a:AO):AH:=⟨A.st,λK T=>if K=k/\T=t then U a else A.o K T,λK T=>if K=k/\T=t then A.vr k t+1 else A.vr K T,A.nn⟩
noncomputable def new(A:AH)(k:Nat)(t:Int)(n:Nat)(a:AO):AH:=⟨λK T=>if K=k/\T=t then n else A.st K T,λK T=>if K=k/\T=t then U a else A.o K T,λK T=>if K=k/\T=t then 0 else A.vr K T,n+1⟩
end ai.AH
namespace ai
def AR(h:Hp)(A:AH):Prop:=(∀k t a,A.o k t=U a->(∃x,h.o (A.R k t)=U x/\a.Is x)/\h.e4 (A.R k t)=A.vr k t)/\h.n=A.nn
theorem zc{A:AH}{k K:Nat}{t T:Int}(h:¬(K=k/\T=t)){n:Nat}:A.R K T≠⟨k,t,n⟩:=λe=>by have e:=(cq.mk.injEq ..).mp e;exact h ⟨e.1,e.2.1⟩
theorem AL{c:Type}{k:Nat}{t:Int}(a b:c):(if k=k/\t=t then a else b)=a:=if_pos ⟨rfl,rfl⟩
theorem oy{A:AH}:(A.new k t n a).R k t=⟨k,t,n⟩:=by show cq.mk _ _ (if _ then _ else _)=_;exact Z (AL _ _) rfl
theorem AR.set(R:AR h A){k:Nat}{t:Int}{x:Obj}{a b:AO}(H:A.o k t=U b)(i:a.Is x):AR (h.set (A.R k t) x) (A.set k t a):=R3 (λK T d e=>by
 by_cases c:K=k/\T=t
 ·obtain⟨rfl,rfl⟩:=c
  have e:(if K=K/\T=T then U a else A.o K T)=U d:=e;rw[AL] at e
  (replace e:=KC e;subst e)
  refine⟨⟨x,if_pos rfl,i⟩,?_⟩;show(if _ then _ else _)=(if _ then _ else _);rw[AL];exact(if_pos rfl).trans (congrArg (·+1) (R.1 _ _ _ H).2)
 ·have e:(if K=k/\T=t then U a else A.o K T)=U d:=e
  rw[if_neg c] at e;refine ay (R.1 _ _ _ e) λB E=>aD B λy f g=>⟨⟨y,(if_neg (zc c)).trans f,g⟩,?_⟩;show(if _ then _ else _)=(if _ then _ else _);exact Z (if_neg c) ((if_neg (zc c)).trans E)) R.2
theorem AR.new(R:AR h A)(k:Nat)(t:Int){x:Obj}{a:AO}(i:a.Is x):AR (h.new k t x) (A.new k t h.n a):=R3 (λK T d e=>by
 by_cases c:K=k/\T=t
 ·obtain⟨rfl,rfl⟩:=c
  have e:(if K=K/\T=T then U a else A.o K T)=U d:=e;rw[AL] at e
  (replace e:=KC e;subst e)
  refine Z oy ⟨⟨x,if_pos rfl,i⟩,?_⟩;show(if _ then _ else _)=(if _ then _ else _);rw[AL];exact if_pos rfl
 ·have e:(if K=k/\T=t then U a else A.o K T)=U d:=e
  rw[if_neg c] at e;refine ay (R.1 _ _ _ e) λb E=>aD b λy f g=>?_;have:(A.new k t h.n a).R K T=A.R K T:=by show cq.mk _ _ (if _ then _ else _)=_;refine Z (if_neg c) ?_;rfl
  refine Z this ⟨⟨y,(if_neg (zc c)).trans f,g⟩,?_⟩;show(if _ then _ else _)=(if _ then _ else _);exact Z (if_neg c) ((if_neg (zc c)).trans E)) rfl
theorem AR.io(R:AR h A){k:Nat}{t:Int}(e:A.o k t=U (.list xs)):h.o (A.R k t)=U (.list xs):=by exact ay (R.1 _ _ _ e) λb _=>aD b λx E a=>Z E (congrArg U a)
theorem AR.dS(R:AR h A){k:Nat}{t:Int}(e:A.o k t=U (.dS xs)):h.o (A.R k t)=U (.dS xs):=by exact ay (R.1 _ _ _ e) λb _=>aD b λx E a=>Z E (congrArg U a)
theorem AR.dN(R:AR h A){k:Nat}{t:Int}(e:A.o k t=U (.dN xs)):h.o (A.R k t)=U (.dN xs):=by exact ay (R.1 _ _ _ e) λb _=>aD b λx E a=>Z E (congrArg U a)
theorem AR.dI(R:AR h A){k:Nat}{t:Int}{u:List Int}{f:Int->Option V}(e:A.o k t=U (.dI u f)):
  ∃es,h.o (A.R k t)=U (.dI es)/\(es.map (·.1)).Nodup/\(∀i,(bc es i).isSome=true->i∈u)/\u.length<900/\∀i,bc es i=f i:=by
 refine ay (R.1 _ _ _ e) λb _=>aD b λx a r=>aD r λes E c=>?_;clear r;subst E;exact⟨es,a,c⟩
theorem AR.dP(R:AR h A){k:Nat}{t:Int}{u:List (List Int)}{f:List Int->Option V}(e:A.o k t=U (.dP u f)):
  ∃es,h.o (A.R k t)=U (.dP es)/\(es.map (·.1)).Nodup/\(∀i,(bc es i).isSome=true->i∈u)/\u.length<900/\∀i,bc es i=f i:=by
 refine ay (R.1 _ _ _ e) λb _=>aD b λx a r=>aD r λes E c=>?_;clear r;subst E;exact⟨es,a,c⟩
section
variable {K α:Type} [DecidableEq K]
noncomputable def fd(f:K->Option α)(k:K)(v:Option α):K->Option α:=λx=>if x=k then v else f x
theorem ez:∀(es:List (K×α)) (k:K) (v:α) (x:K),bc (bA es k v) x=if x=k then U v else bc es x
 |[],k,v,x=>by
  refine(?_ :(if k=x then U v else KF)=_);by_cases h:x=k;·subst h;(rw[if_pos rfl];exact Z (if_pos rfl) rfl)
  ·refine Z (if_neg h) (Z (if_neg (λe=>h e.symm)) ?_);rfl
 |(a,w)::r,k,v,x=>by
  refine(?_ :bc (if a=k then(a,v)::r else(a,w)::bA r k v) x=_);by_cases c:a=k
  ·subst c
   refine Z (if_pos rfl) (?_ :(if a=x then U v else bc r x)=if x=a then U v else if a=x then U w else bc r x);by_cases h:x=a;·exact Z (if_pos h) (Z (if_pos h.symm) rfl)
   ·exact Z (if_neg h) (Z (if_neg (λe=>h e.symm)) (Z (if_neg (λe=>h e.symm)) rfl))
  ·refine Z (if_neg c) ((Z (ez r k v x) ?_):(if a=x then U w else bc (bA r k v) x)=if x=k then U v else if a=x then U w else bc r x)
   by_cases h:a=x;·exact Z (if_pos h) (Z (if_pos h) (Z (if_neg (λe=>c (h.trans e))) rfl))
   ·exact Z (if_neg h) (Z (if_neg h) rfl)
theorem tT:∀(es:List (K×α)) (k:K) (v:α) (x:K),x∈(bA es k v).map (·.1)↔x=k\/x∈es.map (·.1)
 |[],k,v,x=>((iR KG ⟨.inl,λh=>h.elim id λh=>nomatch h⟩):x∈[k]↔x=k\/x∈[])
 |(a,w)::r,k,v,x=>by
  refine(?_ :x∈(if a=k then(a,v)::r else(a,w)::bA r k v).map (·.1)↔x=k\/x∈a::r.map (·.1));by_cases c:a=k
  ·subst c
   exact Z (if_pos rfl) (⟨.inr,λh=>h.elim (λe=>Z e KJ) id⟩:x∈a::r.map (·.1)↔_)
  ·refine Z (if_neg c) (?_ :x∈a::(bA r k v).map (·.1)↔_)
   simp only[KM,KM,tT r k v x];exact⟨λh=>h.elim (λe=>.inr (.inl e)) λh=>h.elim .inl λh=>.inr (.inr h),λh=>h.elim (λe=>.inr (.inl e)) λh=>h.elim .inl λh=>.inr (.inr h)⟩
theorem kV:∀{es:List (K×α)} {k:K} {v:α},(es.map (·.1)).Nodup->((bA es k v).map (·.1)).Nodup
 |[],k,v,_=>K9.mpr ⟨MH,Mk⟩
 |(a,w)::r,k,v,h=>by
  refine(?_ :((if a=k then(a,v)::r else(a,w)::bA r k v).map (·.1)).Nodup);have h:=K9.mp h;by_cases c:a=k;·exact Z (if_pos c) (K9.mpr h)
  ·exact Z (if_neg c) (K9.mpr ⟨λm=>KS ((tT r k v a).mp m) (λe=>c e) λe=>h.1 e,kV h.2⟩)
theorem hm:∀(es:List (K×α)) (k x:K),bc (gf es k) x=if x=k then KF else bc es x
 |[],k,x=>by refine(?_ :KF=if x=k then KF else KF);by_cases h:x=k<;>simp only[h,if_true,if_false]
 |(a,w)::r,k,x=>by
  refine(?_ :bc (if a=k then gf r k else(a,w)::gf r k) x=_);by_cases c:a=k
  ·subst c
   refine Z (if_pos rfl) (Z (hm r a x) (?_ :_=if x=a then KF else if a=x then U w else bc r x));by_cases h:x=a;·exact Z (if_pos h) (Z (if_pos h) rfl)
   ·exact Z (if_neg h) (Z (if_neg h) (Z (if_neg (λe=>h e.symm)) rfl))
  ·refine Z (if_neg c) ((Z (hm r k x) ?_):(if a=x then U w else bc (gf r k) x)=if x=k then KF else if a=x then U w else bc r x)
   by_cases h:a=x;·exact Z (if_pos h) (Z (if_pos h) (Z (if_neg (λe=>c (h.trans e))) rfl))
   ·exact Z (if_neg h) (Z (if_neg h) rfl)
theorem nV:∀{es:List (K×α)} {k x:K},x∈(gf es k).map (·.1)->x∈es.map (·.1)
 |[],_,_,h=>h
 |(a,w)::r,k,x,h=>by
  have h:x∈(if a=k then gf r k else(a,w)::gf r k).map (·.1):=h;by_cases c:a=k;·rw[if_pos c] at h;exact KP _ (nV h)
  ·rw[if_neg c] at h
   exact KS (KM.mp h) (λe=>Z e KJ) λe=>KP _ (nV e)
theorem i9:∀{es:List (K×α)} {k:K},(es.map (·.1)).Nodup->((gf es k).map (·.1)).Nodup
 |[],_,h=>h
 |(a,w)::r,k,h=>by
  have h:=K9.mp h;refine(?_ :((if a=k then gf r k else(a,w)::gf r k).map (·.1)).Nodup);by_cases c:a=k;·exact Z (if_pos c) (i9 h.2)
  ·exact Z (if_neg c) (K9.mpr ⟨λm=>h.1 (nV m),i9 h.2⟩)
theorem fi:∀{es:List (K×α)} {x:K},(bc es x).isSome=true↔x∈es.map (·.1)
 |[],x=>⟨λh=>(nomatch h),λh=>(nomatch h)⟩
 |(a,w)::r,x=>by
  refine(?_ :(if a=x then U w else bc r x).isSome=true↔x∈a::r.map (·.1));by_cases c:a=x;·exact Z (if_pos c) ⟨λ_=>c▸KJ,λ_=>rfl⟩
  ·(refine Z (if_neg c) ?_;rw[fi,KM])
   exact⟨.inr,λh=>h.elim (λe=>(c e.symm).elim) id⟩
end
theorem hv{b:Type}[DecidableEq b]:∀{l u:List b},l.Nodup->(∀x∈l,x∈u)->l.length<=u.length
 |[],_,_,_=>K3 _
 |a::r,u,n,s=>by have n:=K9.mp n;have h:=s a KJ;have:=hv (u:=u.erase a) n.2 λx m=>(List.mem_erase_of_ne λe=>n.1 (by simp only[<-e];exact m)).mpr (s x (KP _ m));simp only[List.length_erase_of_mem h] at this;have:0<u.length:=List.length_pos_of_mem h;simp only[Lr];lia
theorem gk{K a:Type}[DecidableEq K]{es:List (K×a)}{u:List K}(n:(es.map (·.1)).Nodup)(s:∀i,(bc es i).isSome=true->i∈u):es.length<=u.length:=by have:=hv n λx m=>s x (fi.mpr m);rwa[KE] at this
variable {h:Hp} {A:AH}
section
variable {r:cq} {o:Obj} {x y:V}
theorem fZ(e:h.o r=U (.dS fs)):bC h r=U fs:=by refine((Z e ?_):(h.o r).bind Obj.bC=_);rfl
theorem q0(e:h.o r=U o):kY h (.ref r) x=o.sub x:=by refine((Z e ?_):(h.o r).bind (Obj.sub x)=_);rfl
theorem vV(e:h.o r=U o):dK h x (.ref r)=o.dK x:=by refine((Z e ?_):(h.o r).bind (Obj.dK x)=_);rfl
theorem rM(e:h.o r=U o):kindOf h (.ref r)=U o.F8:=by refine((Z e ?_):(h.o r).map Obj.F8=_);rfl
theorem j5{Q:Hp->Prop}(e:h.o r=U o)(q:o.DQ x y λx=>Q (h.set r x)):gA h (.ref r) x y Q:=ab (o:=V.tC (.ref r)) rfl (ab e q)
theorem zT{Q:Hp->Prop}(e:h.o r=U o)(q:o.mB x λx=>Q (h.set r x)):z4 h (.ref r) x Q:=ab (o:=V.tC (.ref r)) rfl (ab e q)
theorem kN(e:h.o r=U o)(q:o.cont h r m vs Q):ih h (.ref r) m vs Q:=ab (o:=V.tC (.ref r)) rfl (ab e q)
theorem nj(e:h.o r=U o):It.start h (.ref r)=o.it r (h.e4 r):=by refine((Z e ?_):(h.o r).bind _=_);rfl
theorem wA(e:h.o r=U o)(q:o.pq Q h):qI .sorted [.ref r] Q h:=(ab e q:bB (h.o r) (Obj.pq Q h))
theorem yV{k:Nat}{v:V}{P:V->Prop}(R:AR h A)(H:A.o k t=U (.dS fs))(e:bc fs f=U v)(q:P v):
  bB (bC h (A.R k t)) (r7 f P):=by
 exact ab (fZ (R.dS H)) (ab e q)
theorem Ie{k:Nat}(R:AR h A)(H:A.o k t=U (.dS fs))(e:bc fs f=KF):
  bB (bC h (A.R k t)) (Gb f):=by
 exact ab (fZ (R.dS H)) e
theorem gm{k:Nat}{fs':List (String×V)}{P:Hp->Prop}(R:AR h A)(H:A.o k t=U (.dS fs))(l:fs.length<900)(e:bA fs f v=fs')(q:∀h',AR h' (A.set k t (.dS fs'))->P h'):
  bB (bC h (A.R k t)) (BE (A.R k t) f v P h):=by
 exact ab (fZ (R.dS H)) ⟨l,q _ (R.set H (congrArg Obj.dS e))⟩
theorem cK{k:Nat}{i:Int}{g:Int->Option V}{v:V}{P:V->Prop}(R:AR h A)(e:A.o k t=U (.dI u g))(H:g i=U v)(q:P v):bB (kY h (.ref (A.R k t)) (.int i)) P:=by exact ii (R.dI e) λes E _ _ _ a=>ab ((q0 E).trans ((a i).trans H)) q
theorem dm{k:Nat}{v:V}{P:V->Prop}(R:AR h A)(e:A.o k t=U (.dS fs))(H:bc fs i=U v)(q:P v):bB (kY h (.ref (A.R k t)) (.str i)) P:=by exact ab ((q0 (R.dS e)).trans H) q
theorem E4{k:Nat}{g:List Int->Option V}{v:V}{i:List Int}{P:V->Prop}(R:AR h A)(e:A.o k t=U (.dP u g))(H:de x=U i)(G:g i=U v)(q:P v):bB (kY h (.ref (A.R k t)) x) P:=by exact ii (R.dP e) λes E _ _ _ a=>ab ((q0 E).trans ((Z H ((a i).trans G)):(de x).bind (bc es)=_)) q
theorem jO{k:Nat}{v:V}{P:V->Prop}(R:AR h A)(e:A.o k t=U (.list xs))(H:jt xs i=U v)(q:P v):bB (kY h (.ref (A.R k t)) (.int i)) P:=by exact ab ((q0 (R.io e)).trans H) q
theorem bT{k:Nat}(R:AR h A)(e:A.o k t=U (.list xs)):cb h (.ref (A.R k t))=U xs:=by refine((Z (R.io e) ?_):(h.o _).bind Obj.io=_);rfl
theorem cE{k:Nat}{P:List V->Prop}(R:AR h A)(e:A.o k t=U (.list xs))(q:P xs):bB (cb h (.ref (A.R k t))) P:=ab (bT R e) q
theorem wU{k:Nat}{g:Int->Option V}(R:AR h A)(e:A.o k t=U (.dI u g)):dK h (.int i) (.ref (A.R k t))=U (g i).isSome:=by exact ii (R.dI e) λes E _ _ _ a=>(vV E).trans (congrArg (λo=>U (RU o)) (a i))
theorem Cu{k:Nat}{g:List Int->Option V}{i:List Int}(R:AR h A)(e:A.o k t=U (.dP u g))(H:de x=U i):dK h x (.ref (A.R k t))=U (g i).isSome:=by exact ii (R.dP e) λes E _ _ _ a=>(vV E).trans ((Z H (congrArg (λo=>U (RU o)) (a i))):(de x).map _=_)
theorem q8{k:Nat}{i:Int}{g:Int->Option V}{P:Bool->Prop}(R:AR h A)(e:A.o k t=U (.dI u g))(q:P (g i).isSome):bB (gI h .dK (.int i) (.ref (A.R k t))) P:=ab (wU R e) q
theorem fO{k:Nat}{i:Int}{g:Int->Option V}{P:Bool->Prop}(R:AR h A)(e:A.o k t=U (.dI u g))(q:P (!(g i).isSome)):bB (gI h .eW (.int i) (.ref (A.R k t))) P:=
 ab (show(dK h _ _).map _=_ by rw[wU R e];rfl) q
theorem y5{k:Nat}{g:List Int->Option V}{i:List Int}{P:Bool->Prop}(R:AR h A)(e:A.o k t=U (.dP u g))(H:de x=U i)(q:P (!(g i).isSome)):bB (gI h .eW x (.ref (A.R k t))) P:=
 ab (show(dK h _ _).map _=_ by rw[Cu R e H];rfl) q
theorem cD{k:Nat}{i:Int}{g:Int->Option V}{v:V}{P:Hp->Prop}(R:AR h A)(e:A.o k t=U (.dI u g))(H:i∈u)(q:∀h',AR h' (A.set k t (.dI u (fd g i (U v))))->P h'):gA h (.ref (A.R k t)) (.int i) v P:=by
 refine ii (R.dI e) λes d E a b f=>j5 d ⟨KU (gk E a) (Ml b (by decide)),q _ (R.set e ⟨_,rfl,kV E,λx m=>?_,b,λx=>?_⟩)⟩
 ·rw[ez] at m
  by_cases c:x=i;·exact Z c H
  ·rw[if_neg c] at m;exact a x m
 ·rw[ez,f];rfl
theorem nU{k:Nat}{g:List Int->Option V}{v:V}{i:List Int}{P:Hp->Prop}(R:AR h A)(e:A.o k t=U (.dP u g))(H:de x=U i)(I:i∈u)(q:∀h',AR h' (A.set k t (.dP u (fd g i (U v))))->P h'):
  gA h (.ref (A.R k t)) x v P:=by
 refine ii (R.dP e) λes d E a b f=>j5 d (ab H ⟨KU (gk E a) (Ml b (by decide)),q _ (R.set e ⟨_,rfl,kV E,λx m=>?_,b,λx=>?_⟩)⟩)
 ·rw[ez] at m
  by_cases c:x=i;·exact Z c I
  ·rw[if_neg c] at m;exact a x m
 ·rw[ez,f];rfl
theorem zM{k:Nat}{fs':List (String×V)}{P:Hp->Prop}(R:AR h A)(e:A.o k t=U (.dS fs))(l:fs.length<900)(H:bA fs f v=fs')(q:∀h',AR h' (A.set k t (.dS fs'))->P h'):
  gA h (.ref (A.R k t)) (.str f) v P:=by
 exact j5 (R.dS e) ⟨Ml l (by decide),q _ (R.set e (congrArg Obj.dS H))⟩
theorem zh{k:Nat}{i:Int}{g:Int->Option V}{v:V}{P:Hp->Prop}(R:AR h A)(e:A.o k t=U (.dI u g))(H:g i=U v)(q:∀h',AR h' (A.set k t (.dI u (fd g i KF)))->P h'):z4 h (.ref (A.R k t)) (.int i) P:=by
 refine ii (R.dI e) λes f E a b d=>zT f ⟨by(rw[d];refine Z H ?_);rfl,?_,q _ (R.set e ⟨_,rfl,i9 E,λx m=>?_,b,λx=>?_⟩)⟩;·exact Lq (KU (gk E a) (Ml b (by decide)))
 ·rw[hm] at m
  by_cases c:x=i;·rw[if_pos c] at m;exact aK m
  ·rw[if_neg c] at m;exact a x m
 ·rw[hm,d];rfl
theorem y7{k:Nat}{g:List Int->Option V}{v:V}{i:List Int}{P:Hp->Prop}(R:AR h A)(e:A.o k t=U (.dP u g))(H:de x=U i)(I:g i=U v)(q:∀h',AR h' (A.set k t (.dP u (fd g i KF)))->P h'):
  z4 h (.ref (A.R k t)) x P:=by
 refine ii (R.dP e) λes f E a b d=>zT f (ab H ⟨by(rw[d];refine Z I ?_);rfl,?_,q _ (R.set e ⟨_,rfl,i9 E,λx m=>?_,b,λx=>?_⟩)⟩);·exact Lq (KU (gk E a) (Ml b (by decide)))
 ·rw[hm] at m
  by_cases c:x=i;·rw[if_pos c] at m;exact aK m
  ·rw[if_neg c] at m;exact a x m
 ·rw[hm,d];rfl
theorem aq{k:Nat}(R:AR h A)(e:A.o k t=U (.list xs)):kindOf h (.ref (A.R k t))=U true:=rM (R.io e)
theorem rx{k:Nat}{g:List Int->Option V}(R:AR h A)(e:A.o k t=U (.dP u g)):kindOf h (.ref (A.R k t))=U false:=by exact aD (R.dP e) λes E _=>rM E
theorem bH{k:Nat}{v:V}{Q:PV}(R:AR h A)(e:A.o k t=U (.list xs))(l:xs.length<aN)(q:∀h',AR h' (A.set k t (.list (xs++[v])))->Q .none h'):ih h (.ref (A.R k t)) "append" [v] Q:=by exact kN (R.io e) ⟨rfl,.inl ⟨rfl,l,q _ (R.set e rfl)⟩⟩
theorem iz{k:Nat}{ys:List V}{v:V}{Q:PV}(R:AR h A)(e:A.o k t=U (.list xs))(n:v≠.ref (A.R k t))(H:cb h v=U ys)(l:xs.length+ys.length<=aN)
  (q:∀h',AR h' (A.set k t (.list (xs++ys)))->Q .none h'):ih h (.ref (A.R k t)) "extend" [v] Q:=by
 exact kN (R.io e) ⟨rfl,.inr ⟨rfl,n,ab H ⟨l,q _ (R.set e rfl)⟩⟩⟩
theorem pS{k:Nat}{xs:List V}{v:V}{Q:PV}(R:AR h A)(e:A.o k t=U (.list (xs++[v])))(l:xs.length<aN)(q:∀h',AR h' (A.set k t (.list xs))->Q v h'):ih h (.ref (A.R k t)) "pop" [] Q:=by refine kN (R.io e) ⟨rfl,by refine Z KH ?_;exact l,ab (by refine Z (List.getLast?_append) ?_;rfl) (q _ (R.set e ?_))⟩;refine Z List.dropLast_concat ?_;rfl
theorem yO{k:Nat}{g:List Int->Option V}{i:List Int}{Q:PV}(R:AR h A)(e:A.o k t=U (.dP u g))(H:de x=U i)(q:Q ((g i).getD .none) h):ih h (.ref (A.R k t)) "get" [x] Q:=by exact ii (R.dP e) λes E _ _ _ a=>kN E (ab H ⟨rfl,Z (a _) q⟩:bB (de x) _)
theorem bz{xs:List V}{Q:PV}(l:xs.length<=aN)(q:Q (.fl xs) h):newList xs Q h:=by unfold newList;exact⟨l,.inl q⟩
theorem c6(k:Nat)(t:Int){xs:List V}{Q:PV}(R:AR h A)(l:xs.length<=aN)(q:∀n h',AR h' (A.new k t n (.list xs))->Q (.ref ⟨k,t,n⟩) h'):newList xs Q h:=by unfold newList;exact⟨l,.inr ⟨k,t,q _ _ (R.new k t rfl)⟩⟩
theorem nq(k:Nat)(t:Int)(u:List Int){Q:PV}(R:AR h A)(l:u.length<900)(q:∀n h',AR h' (A.new k t n (.dI u λ_=>KF))->Q (.ref ⟨k,t,n⟩) h'):dF [] [] Q h:=
 .inl ⟨k,t,q _ _ (R.new k t ⟨[],rfl,Mk,λ_ e=>(nomatch e),l,λ_=>rfl⟩)⟩
theorem EZ(k:Nat)(t:Int)(u:List (List Int)){Q:PV}(R:AR h A)(l:u.length<900)(q:∀n h',AR h' (A.new k t n (.dP u λ_=>KF))->Q (.ref ⟨k,t,n⟩) h'):dF [] [] Q h:=
 .inr (.inl ⟨k,t,q _ _ (R.new k t ⟨[],rfl,Mk,λ_ e=>(nomatch e),l,λ_=>rfl⟩)⟩)
theorem Ev(k:Nat)(t i:Int)(v:V)(u:List Int){Q:PV}(R:AR h A)(l:u.length<900)(H:i∈u)(q:∀n h',AR h' (A.new k t n (.dI u (fd (λ_=>KF) i (U v))))->Q (.ref ⟨k,t,n⟩) h'):dF [.int i] [v] Q h:=
 ⟨k,t,q _ _ (R.new k t ⟨_,rfl,K9.mpr ⟨MH,Mk⟩,(λx e=>by
  have e:(if i=x then U v else KF).isSome=true:=e;by_cases c:i=x;·exact hR c H
  ·rw[if_neg c] at e;exact aK e),l,λx=>by
  refine(?_ :(if i=x then U v else KF)=if x=i then U v else KF);by_cases c:i=x;·exact Z (if_pos c) (Z (if_pos c.symm) rfl)
  ·exact Z (if_neg c) (Z (if_neg λe=>c e.symm) rfl)⟩)⟩
end
theorem cB{K:aV->Hp->Prop}{P:PS}{a:aV}(q:K a h):Fl.seq K P .next a h:=q
theorem h9{c:aV->(Bool->Hp->Prop)->Hp->Prop}{b:aV->PS->Hp->Prop}(I:Nat->aV->Hp->Prop)
  (step:∀m a h (K:aV->Hp->Prop),I m a h->(∀M,M<m->∀a h,I M a h->K a h)->c a (BF (b a (Fl.seq K Q)) (Q .next a)) h)
  {m:Nat}{a:aV}{h:Hp}(i:I m a h):∃n,qf c b n a Q h:=by
 have:∀n m a h,I m a h->m<n->qf c b n a Q h:=by
  intro n;induction n with
  |zero=>intro m _ _ _ l;cases l
  |succ n H=>exact λm a h i l=>step m a h (n0 (qf c b n) Q) i λM L a h i=>H M a h i (bM (ip _ _ _) 0x1137813113911381311379 rfl l L)
 exact⟨m+1,this _ _ _ _ i (LU m)⟩
theorem iV{t:V->aV->(aV->Hp->Prop)->Hp->Prop}{b:aV->PS->Hp->Prop}(I:List V->aV->Hp->Prop)
  (step:∀v l a h (K:aV->Hp->Prop),I (v::l) a h->(∀a h,I l a h->K a h)->t v a (n0 b (Fl.seq K Q)) h)
  (cY:∀a h,I [] a h->Q .next a h):∀(l:List V) {a:aV} {h:Hp},I l a h->∃n,dp t b n (.bp l) a Q h:=by
 have:∀(l:List V) a h,I l a h->dp t b (l.length+1) (.bp l) a Q h:=by
  intro l;induction l with
  |nil=>exact λa h i=>cY a h i
  |cons v l H=>exact λa h i=>step v l a h _ i λa h i=>H a h i
 exact λl a h i=>⟨_,this l a h i⟩
theorem tY{r:cq}{j:Nat}(e:h.o r=U (.list xs))(l:xs.length<=j):(It.cZ r j).next h=U KF:=by refine((Z e ?_):((h.o r).bind Obj.io).map _=_);refine((Z (NU l) ?_):U (xs[j]?.map _)=_);rfl
theorem pz{r:cq}{j:Nat}(e:h.o r=U (.list xs))(l:j<xs.length):(It.cZ r j).next h=U (U (xs[j],.cZ r (j+1))):=by refine((Z e ?_):((h.o r).bind Obj.io).map _=_);refine((Z (LV l) ?_):U (xs[j]?.map _)=_);rfl
theorem jh{o p:Option (Option (V×It))}{F:Prop}{g:V->It->Prop}(e:o=p)(q:ob p F g):ob o F g:=Z e q
theorem i0{t:V->aV->(aV->Hp->Prop)->Hp->Prop}{b:aV->PS->Hp->Prop}{r:cq}(I:List V->aV->Hp->Prop)(same:∀l a h,I l a h->h.o r=U (.list xs))
  (step:∀v l a h (K:aV->Hp->Prop),v∈xs->I (v::l) a h->(∀a h,I l a h->K a h)->t v a (n0 b (Fl.seq K Q)) h)
  (cY:∀a h,I [] a h->Q .next a h){a:aV}{h:Hp}(i:I xs a h):∃n,dp t b n (.cZ r 0) a Q h:=by
 have:∀(m j:Nat) a h,xs.length=j+m->I (xs.drop j) a h->dp t b (m+1) (.cZ r j) a Q h:=by
  intro m;induction m with
  |zero=>intro j a h e i;have l:xs.length<=j:=KQ e;replace i:=(MD l)▸i;exact jh (tY (same _ _ _ i) l) (cY a h i)
  |succ m H=>intro j a h e i;have lt:j<xs.length:=bM (ip _ _ _) 0x11378131113978 rfl (KQ e.symm);rw[Ms lt] at i;exact jh (pz (same _ _ _ i) lt) (step _ _ a h (n0 (dp t b (m+1) (.cZ r (j+1))) Q) (Nl lt) i λa h i=>H (j+1) a h (L2 (bM (ip _ _ _) 0x7191138137111398 rfl (KQ e)) (bM (ip _ _ _) 0x1811379131113879 rfl (KQ e.symm))) i)
 exact⟨_,this xs.length 0 a h (L2 (bM (kT _) 464643 rfl) (bM (kT _) 94263 rfl)) i⟩
theorem toList_len:∀(x:Option V),x.toList.length<=1
 |none=>K3 _
 |some _=>KX _
theorem zq{step:V->List V->(List V->Hp->Prop)->Hp->Prop}{f:V->Option V}{Q:List V->Hp->Prop}:∀(l acc:List V),acc.length+l.length<=aN->(∀v∈l,∀acc (K:List V->Hp->Prop),acc.length<aN->K (acc++(f v).toList) h->step v acc K h)->Q (acc++l.filterMap f) h->
  iter step (l.length+1) (.bp l) acc Q h
 |[],acc,_,_,q=>by simp only[Pe,K8] at q;exact q
 |v::l,acc,b,s,q=>by
  replace b:=Lr▸b;refine s v KJ acc _ (bM (ip _ _ _) 0x11378131113978 rfl b) (zq l _ ?_ (λx m=>s x (KP _ m)) ?_)
  ·have:=toList_len (f v)
   exact Z KH (bM (lP _ _ _ _) 0x19187a13111397a13813 rfl b this)
  have:(v::l).filterMap f=(f v).toList++l.filterMap f:=by simp only[Lg];cases f v<;>rfl
  simp only[K7,<-this];exact q
theorem v9{step:V->List V->(List V->Hp->Prop)->Hp->Prop}{f:V->Option V}{Q:List V->Hp->Prop}{r:cq}(e:h.o r=U (.list xs))(s:∀v∈xs,∀acc (K:List V->Hp->Prop),acc.length<aN->K (acc++(f v).toList) h->step v acc K h):
  ∀(m j:Nat) (acc:List V),acc.length+m<=aN->xs.length=j+m->Q (acc++(xs.drop j).filterMap f) h->iter step (m+1) (.cZ r j) acc Q h
 |0,j,acc,_,l,q=>by rw[MD (by exact bM (gF _ _) 0x781371038 rfl (KQ l)),Pe,K8] at q;exact jh (tY e (KQ l)) q
 |m+1,j,acc,b,l,q=>by
  have lt:j<xs.length:=by exact bM (ip _ _ _) 0x11378131113978 rfl (KQ l.symm)
  refine jh (pz e lt) (s _ (Nl lt) acc _ (by exact bM (ip _ _ _) 0x11378131113978 rfl b) (v9 e s m (j+1) _ ?_ (by exact L2 (bM (ip _ _ _) 0x7191138137111398 rfl (KQ l)) (bM (ip _ _ _) 0x1811379131113879 rfl (KQ l.symm))) ?_))
  ·have:=toList_len (f xs[j])
   exact Z KH (bM (lP _ _ _ _) 0x19187a13111397a13813 rfl b this)
  have:(xs.drop j).filterMap f=(f xs[j]).toList++(xs.drop (j+1)).filterMap f:=by simp only[Ms lt,Lg];cases f xs[j]<;>rfl
  simp only[K7,<-this];exact q
end ai
namespace ai.M
abbrev ci:=Int×Int×Option Int
abbrev Up:=Int->Option (Int×Option Int)
noncomputable def arg(t:Int):Option Int:=if t=9 then U 3 else if t=10 then U 4 else if t=11 then U 5 else KF
inductive cf(E:List ci)(x:Int):Int->Prop
 |refl:cf E x x
 |u1 {y z w}:cf E x y->(y,z,w)∈E->cf E x z
 |wz {y z w}:cf E x y->(z,y,w)∈E->cf E x z
end ai.M
namespace ai.M.cf
theorem trans(a:cf E x y)(b:cf E y z):cf E x z:=by
 induction b with
 |refl=>exact a
 |u1 _ m i=>exact .u1 i m
 |wz _ m i=>exact .wz i m
theorem symm(a:cf E x y):cf E y x:=by
 induction a with
 |refl=>exact .refl
 |u1 _ m i=>exact(cf.wz .refl m).trans i
 |wz _ m i=>exact(cf.u1 .refl m).trans i
theorem bv{E b:List ci}(s:∀e∈E,e∈b)(a:cf E x y):cf b x y:=by
 induction a with
 |refl=>exact .refl
 |u1 _ m i=>exact .u1 i (s _ m)
 |wz _ m i=>exact .wz i (s _ m)
end ai.M.cf
namespace ai.M
inductive Cl(T:Int->Int->Prop):Int->Int->Prop
 |jj {x y}:T x y->Cl T x y
 |refl {x}:Cl T x x
 |symm {x y}:Cl T x y->Cl T y x
 |trans {x y z}:Cl T x y->Cl T y z->Cl T x z
 |congr {x y u v}:arg x=U u->arg y=U v->Cl T u v->Cl T x y
theorem Cl.bv{T t:Int->Int->Prop}(s:∀x y,T x y->t x y){x y:Int}(a:Cl T x y):Cl t x y:=by
 induction a with
 |jj h=>exact .jj (s _ _ h)
 |refl=>exact .refl
 |symm _ i=>exact i.symm
 |trans _ _ a b=>exact a.trans b
 |congr a b _ i=>exact .congr a b i
inductive dR(T:Int->Int->Int->Prop):List ci->Prop
 |nil:dR T []
 |jj {E x y m}:dR T E->T m x y->dR T (E++[(x,y,U m)])
 |args {E x y u v}:dR T E->arg x=U u->arg y=U v->cf E u v->dR T (E++[(x,y,KF)])
theorem dR.eh{T:Int->Int->Int->Prop}{E:List ci}(g:dR T E){x y:Int}(c:cf E x y):Cl (λa b=>∃m,T m a b) x y:=by
 have o:∀{E:List ci},(∀a b w,(a,b,w)∈E->Cl (λa b=>∃m,T m a b) a b)->∀{x y},cf E x y->Cl (λa b=>∃m,T m a b) x y:=by
  intro E h x y c;induction c with
  |refl=>exact .refl
  |u1 _ m i=>exact i.trans (h _ _ _ m)
  |wz _ m i=>exact i.trans (h _ _ _ m).symm
 refine o ?_ c;clear c;induction g with
 |nil=>intro a b w h;cases h
 |jj g t i=>intro a b w h;refine KS (KW.mp h) (λh=>i a b w h) λh=>?_;cases KG.mp h;exact .jj ⟨_,t⟩
 |args g e d c i=>
  intro a b w h;refine KS (KW.mp h) (λh=>i a b w h) λh=>?_
  ·cases KG.mp h
   exact .congr e d (o i c)
theorem dR.bv{T d:Int->Int->Int->Prop}(s:∀m x y,T m x y->d m x y){E:List ci}(g:dR T E):dR d E:=by
 induction g with
 |nil=>exact .nil
 |jj _ t i=>exact .jj i (s _ _ _ t)
 |args _ a b c i=>exact .args i a b c
inductive Fin(up:Up):Int->Prop
 |intro {x}:(∀y w,up x=U (y,w)->Fin up y)->Fin up x
def il(up:Up):Prop:=∀x,Fin up x
inductive a6(up:Up):Int->Int->Prop
 |refl {x}:a6 up x x
 |step {x y w z}:up x=U (y,w)->a6 up y z->a6 up x z
theorem a6.trans{up:Up}{x y z:Int}(a:a6 up x y)(b:a6 up y z):a6 up x z:=by
 induction a with
 |refl=>exact b
 |step e _ i=>exact .step e (i b)
set_option tactic.hygienic true in
theorem Fin.kn{up:Up}{x y:Int}{w}(f:Fin up x):up x=U (y,w)->¬a6 up y x:=by
 induction f generalizing y w with
 |intro h i=>
  rename_i x
  intro e r
  induction r with
  |refl=>exact i _ _ e e .refl
  |step E R=>exact i _ _ e E (R.trans (.step e .refl))
theorem a6.G6{up:Up}(A:il up){x y:Int}(a:a6 up x y)(b:a6 up y x):x=y:=by
 cases a with
 |refl=>rfl
 |step e r=>exact((A x).kn e (r.trans b)).elim
theorem a6.FI{up:Up}{x a b:Int}(p:a6 up x a)(q:a6 up x b):a6 up a b\/a6 up b a:=by
 induction p with
 |refl=>exact .inl q
 |step e r i=>
  induction q with
  |refl=>exact .inr (.step e r)
  |step E R=>replace E:=e▸E;(cases KC E);exact i R
def j6(up:Up)(a b c:Int):Prop:=(a6 up a c/\¬a6 up b c)\/(a6 up b c/\¬a6 up a c)
def b8(up:Up)(E:List ci):Prop:=il up/\(∀x y w,up x=U (y,w)->(x,y,w)∈E\/(y,x,w)∈E)/\∀x y w,(x,y,w)∈E->up x=U (y,w)\/up y=U (x,w)
def ox(up:Up)(S:List ci)(c:Int):Prop:=∃p w,up c=U (p,w)/\((c,p,w)∈S\/(p,c,w)∈S)
theorem D3{S:List ci}(F:b8 up E)(s:∀e∈S,e∈E)(k:cf S a b)(c:Int):(a6 up a c↔a6 up b c)\/ox up S c:=by
 have dZ:∀{y z w},((y,z,w)∈S\/(z,y,w)∈S)->up y=U (z,w)->(a6 up y c↔a6 up z c)\/ox up S c:=by
  intro y z w m e;by_cases q:c=y;·subst q;exact .inr ⟨z,w,e,m⟩
  ·refine .inl ⟨λr=>?_,λr=>.step e r⟩
   clear m;induction r with
   |refl=>exact(q rfl).elim
   |step d R=>replace d:=e▸d;obtain⟨rfl,rfl⟩:=Lz (KC d);exact R
 induction k with
 |refl=>exact .inl S6
 |u1 _ m i=>refine KS i (λi=>?_) λi=>.inr i;·exact KS (F.2.2 _ _ _ (s _ m)) (λe=>KS (dZ (.inl m) e) (λo=>.inl (i.trans o)) λo=>.inr o) λe=>KS (dZ (.inr m) e) (λo=>.inl (i.trans o.symm)) λo=>.inr o
 |wz _ m i=>refine KS i (λi=>?_) λi=>.inr i;·exact KS (F.2.2 _ _ _ (s _ m)) (λe=>KS (dZ (.inl m) e) (λo=>.inl (i.trans o.symm)) λo=>.inr o) λe=>KS (dZ (.inr m) e) (λo=>.inl (i.trans o)) λo=>.inr o
theorem kh{S:List ci}(F:b8 up E)(s:∀e∈S,e∈E){c:Int}(k:cf S a b)(h:j6 up a b c):ox up S c:=by refine KS (D3 F s k c) (λe=>?_) λe=>e;·exact KS h (λr=>ay r λp q=>(q (e.mp p)).elim) λR=>ay R λp q=>(q (e.mpr p)).elim
set_option tactic.hygienic true in
theorem GP(A:il up){Q:Int->Int->Prop}(F:∀x,Q x x)(S:∀{x y},Q x y->Q y x)(tr:∀{x y z},Q x y->Q y z->Q x z):
  ∀{a b:Int},a6 up a m->a6 up b m->(∀c p w,j6 up a b c->up c=U (p,w)->Q c p)->Q a b:=by
 have ud:∀{a b:Int},a6 up b a->(∀c p w,j6 up a b c->up c=U (p,w)->Q c p)->Q b a:=by
  intro a b r
  induction r with
  |refl=>intro _;exact F _
  |step e r i=>
   rename_i x y w z
   intro h
   have nx:¬a6 up z x:=λq=>(A x).kn e (r.trans q)
   refine tr (h x y w (.inr ⟨.refl,nx⟩) e) (i λc p W s f=>h c p W ?_ f)
   rcases s with⟨p1,P⟩ |⟨p1,P⟩
   ·refine .inl ⟨p1,λq=>?_⟩
    clear f
    cases q with
    |refl=>exact nx p1
    |step E R=>replace E:=e▸E;obtain⟨rfl,rfl⟩:=Lz (KC E);exact P R
   ·exact .inr ⟨.step e p1,P⟩
 intro a b g
 induction g with
 |refl=>intro B h;exact S (ud B h)
 |step e r i=>
  rename_i x y w m
  intro B h
  by_cases c:a6 up b x
  ·exact S (ud c h)
  ·refine tr (h x y w (.inl ⟨.refl,c⟩) e) (i B λd p W s f=>h d p W ?_ f)
   rcases s with⟨p1,P⟩ |⟨p1,P⟩
   ·exact .inl ⟨.step e p1,P⟩
   ·refine .inr ⟨p1,λq=>?_⟩
    clear f
    cases q with
    |refl=>exact c p1
    |step E R=>replace E:=e▸E;obtain⟨rfl,rfl⟩:=Lz (KC E);exact P R
set_option tactic.hygienic true in
theorem Fe(f:Fin up x):∃r,a6 up x r/\up r=KF:=by
 induction f with
 |intro h i=>
  rename_i x
  induction e:up x with
  |none=>exact⟨x,.refl,e⟩
  |some p=>
   obtain⟨y,w⟩:=p
   exact aD (i y w e) λr a b=>⟨r,.step e a,b⟩
theorem pa{S:List ci}(F:b8 up E)(s:∀e∈S,e∈E)(k:cf S a b):∃m,a6 up a m/\a6 up b m:=by refine aD (Fe (F.1 a)) λr h H=>KS (D3 F s k r) (λe=>⟨r,h,e.mp h⟩) λR=>eH R λp w e _=>?_;replace e:=H▸e;cases e
def jU(up:Up)(X:Int->Prop):Prop:=∀c p u v,X c->up c=U (p,KF)->arg c=U u->arg p=U v->∀d,j6 up u v d->X d
theorem FV{T:Int->Int->Int->Prop}(F:b8 up E)(g:dR T E){X R:Int->Prop}(C:jU up X)(hR:∀c p m,X c->up c=U (p,U m)->R m)
  {a b:Int}(k:cf E a b)(f:∀c,j6 up a b c->X c):Cl (λx y=>∃m,R m/\T m x y) a b:=by
 have cY:∀{S:List ci},(∀e∈S,e∈E)->(∀x y w,(x,y,w)∈S->(up x=U (y,w)->X x->Cl (λx y=>∃m,R m/\T m x y) x y)/\(up y=U (x,w)->X y->Cl (λx y=>∃m,R m/\T m x y) x y))->
   ∀{a b},cf S a b->(∀c,j6 up a b c->X c)->Cl (λx y=>∃m,R m/\T m x y) a b:=by
  intro S s h a b k f;refine aD (pa F s k) λm p q=>GP F.1 (Q:=Cl λx y=>∃m,R m/\T m x y) (λx=>.refl) .symm .trans p q λc p w P e=>eH (kh F s k P) λo W n m=>?_;replace n:=e▸n;(cases KC n);rcases m with m |m
  ·exact(h _ _ _ m).1 e (f c P)
  ·exact((h _ _ _ m).2 e (f c P)).symm
 refine cY (λe m=>m) ?_ k f;clear k f;have all:∀{S:List ci},dR T S->(∀e∈S,e∈E)->∀x y w,(x,y,w)∈S->(up x=U (y,w)->X x->Cl (λx y=>∃m,R m/\T m x y) x y)/\(up y=U (x,w)->X y->Cl (λx y=>∃m,R m/\T m x y) x y):=by
  intro S g;induction g with
  |nil=>intro _ x y w h;exact(nomatch h)
  |jj g t i=>
   intro s x y w h;refine KS (KW.mp h) (λh=>i (λe m=>s e (KZ _ m)) x y w h) λh=>?_
   ·cases KG.mp h
    exact⟨λe H=>.jj ⟨_,hR _ _ _ H e,t⟩,λe H=>.jj ⟨_,hR _ _ _ H e,t⟩⟩
  |args g j l c i=>
   intro s x y w h;have s':=λe m=>s e (KZ _ m);rcases KW.mp h with h |h
   ·exact i s' x y w h
   ·cases KG.mp h
    exact⟨λe H=>.congr j l (cY s' (i s') c λd P=>C _ _ _ _ H e j l d P),λe H=>.congr j l (cY s' (i s') c λd P=>C _ _ _ _ H e l j d (P.elim .inr .inl))⟩
 exact all g λe m=>m
theorem vD{S:List ci}{T:Int->Int->Int->Prop}(F:b8 up E)(g:dR T S)(s:∀e∈S,e∈E):jU up (ox up S):=by
 have key:∀{S':List ci},dR T S'->(∀e∈S',e∈E)->∀x y u v,(x,y,KF)∈S'->arg x=U u->arg y=U v->cf S' u v:=by
  intro S' g;induction g with
  |nil=>intro _ x y u v h;cases h
  |jj g t i=>intro s x y u v h a b;refine KS (KW.mp h) (λh=>(i (λe m=>s e (KZ _ m)) x y u v h a b).bv λe m=>KZ _ m) λh=>?_;clear a b;cases KG.mp h
  |args g j k c i=>
   intro s x y u v h a b;refine KS (KW.mp h) (λh=>(i (λe m=>s e (KZ _ m)) x y u v h a b).bv λe m=>KZ _ m) λh=>?_
   ·cases KG.mp h
    replace a:=j▸a;replace b:=k▸b;(replace a:=KC a;subst a);obtain rfl:=KC b;exact c.bv λe m=>KZ _ m
 intro c p u v ⟨l,w,e,m⟩ f a b d P;replace f:=e▸f;clear e;obtain⟨rfl,rfl⟩:=Lz (KC f);exact KS m (λm=>kh F s (key g s _ _ _ _ m a b) P) λm=>kh F s (key g s _ _ _ _ m b a).symm P
noncomputable def aH{a b:Type}[DecidableEq a](f:a->b)(k:a)(v:b):a->b:=λx=>if x=k then v else f x
section
variable {α β:Type} [DecidableEq α]
theorem aP(f:α->β)(k:α)(v:β):aH f k v k=v:=if_pos rfl
theorem aI(f:α->β){k x:α}(v:β)(h:x≠k):aH f k v x=f x:=if_neg h
theorem e7(f:α->β)(k:α)(v w:β):aH (aH f k v) k w=aH f k w:=by
 funext x;by_cases h:x=k;·subst h;simp only[aP,aP]
 ·simp only[aI _ _ h,aI _ _ h,aI _ _ h]
theorem dB(f:α->β)(k:α):aH f k (f k)=f:=by
 funext x;by_cases h:x=k;·subst h;exact Z (aP _ _ _) rfl
 ·exact Z (aI _ _ h) rfl
theorem iJ(f:α->β){k l:α}(v w:β)(h:k≠l):aH (aH f k v) l w=aH (aH f l w) k v:=by
 funext x;by_cases a:x=k;·subst a;(refine Z (aI _ _ h) ?_;rw[aP,aP])
 ·by_cases b:x=l
  ·clear h;subst b;rw[aP,aI _ _ a,aP]
  ·exact Z (aI _ _ b) (Z (aI _ _ a) (Z (aI _ _ a) (Z (aI _ _ b) rfl)))
end
inductive ev:Up->List Int->Up->Prop
 |dZ {up t}:up t=KF->ev up [t] up
 |cons {up t p w l u}:up t=U (p,w)->ev up (p::l) u->ev up (t::p::l) (aH (aH u t KF) p (U (t,w)))
theorem ev.qB{up u:Up}{l:List Int}(h:ev up l u):∀{t r},l=t::r->∀x∈l,a6 up t x:=by
 induction h with
 |dZ=>intro t r e x m;(injection e with e;subst e);cases KG.mp m;exact .refl
 |cons e h i=>
  intro t r E x m
  (injection E with E;subst E)
  rcases KM.mp m with rfl |m
  ·exact .refl
  ·exact .step e (i rfl x m)
theorem ev.same{up u:Up}{l:List Int}(h:ev up l u):∀x,x∉l->u x=up x:=by
 induction h with
 |dZ=>intro _ _;rfl
 |cons e h i=>intro x m;simp only[KM,KM,not_or,not_or] at m;exact Z (aI _ _ m.2.1) (Z (aI _ _ m.1) (Z (i x (iR KM (iR not_or m.2))) rfl))
theorem ev.hL{up u:Up}{l:List Int}(h:ev up l u)(A:il up):l.Nodup:=by
 induction h with
 |dZ=>exact K9.mpr ⟨MH,Mk⟩
 |cons e h i=>exact K9.mpr ⟨λm=>(A _).kn e (h.qB rfl _ m),i⟩
theorem ev.head{up u:Up}{l:List Int}(h:ev up l u)(A:il up):∀{t r},l=t::r->u t=none:=by
 induction h with
 |dZ e=>intro t r E;(injection E with E;subst E);exact e
 |cons e h=>
  intro t r E
  (injection E with E;subst E)
  have:=(ev.cons e h).hL A;rw[K9] at this
  (exact Z (aI _ _ λq=>this.1 (KM.mpr (.inl q))) (Z (aP _ _ _) rfl))
set_option tactic.hygienic true in
theorem ev.exists{up:Up}{t:Int}(f:Fin up t):∃l u,ev up (t::l) u:=by
 induction f with
 |intro h i=>
  rename_i x
  induction e:up x with
  |none=>exact⟨[],up,.dZ e⟩
  |some p=>
   obtain⟨y,w⟩:=p
   exact g9 (i y w e) λl u k=>⟨_,_,.cons e k⟩
set_option tactic.hygienic true in
theorem J6(F:b8 up E){c:Int}{w:Option Int}(R:up r=KF)(C:up c=U (r,w)):b8 (aH (aH up c KF) r (U (c,w))) E:=by
 have n:r≠c:=λe=>by replace R:=C▸e▸R;exact(nomatch R)
 have b:∀x,x≠c->x≠r->aH (aH up c KF) r (U (c,w)) x=up x:=λx H a=>Z (aI _ _ a) (Z (aI _ _ H) rfl)
 have d:aH (aH up c KF) r (U (c,w)) c=KF:=by(exact Z (aI _ _ n.symm) (Z (aP _ _ _) rfl))
 have f:aH (aH up c KF) r (U (c,w)) r=U (c,w):=aP _ _ _
 have g:Fin (aH (aH up c KF) r (U (c,w))) c:=⟨λy v e=>by replace e:=d▸e;cases e⟩
 refine⟨λx=>?_,λx y v e=>?_,λx y v m=>?_⟩
 ·induction F.1 x with
  |intro h i=>
   rename_i x
   by_cases H:x=c
   ·clear i f d b n C;subst H;exact g
   ·by_cases a:x=r
    ·clear i d b n C R;subst a;exact⟨λy v e=>by replace e:=f▸e;obtain⟨rfl,rfl⟩:=Lz (KC e);exact g⟩
    ·exact⟨λy v e=>by replace e:=(b x H a)▸e;exact i y v e⟩
 ·by_cases H:x=c
  ·clear g f b n C;subst H;replace e:=d▸e;cases e
  ·by_cases a:x=r
   ·clear g d b n R;subst a;replace e:=f▸e;obtain⟨rfl,rfl⟩:=Lz (KC e)
    exact(F.2.1 _ _ _ C).symm
   ·replace e:=(b x H a)▸e;exact F.2.1 _ _ _ e
 ·have key:∀{x y},up x=U (y,v)->aH (aH up c KF) r (U (c,w)) x=U (y,v)\/aH (aH up c KF) r (U (c,w)) y=U (x,v):=by
   intro x y e
   by_cases H:x=c
   ·clear g d b n;subst H;replace e:=C▸e;clear m;obtain⟨rfl,rfl⟩:=Lz (KC e);exact .inr f
   ·by_cases a:x=r
    ·clear g f d b n C;subst a;replace e:=R▸e;cases e
    ·exact .inl ((b x H a).trans e)
  rcases F.2.2 _ _ _ m with e |e
  ·exact key e
  ·exact(key e).symm
theorem ev.y0{up u:Up}{l:List Int}(h:ev up l u):∀{E:List ci},b8 up E->b8 u E:=by
 induction h with
 |dZ=>intro _ F;exact F
 |cons e h i=>intro E F;exact J6 (i F) (h.head F.1 rfl) (Z (h.same _ λm=>(F.1 _).kn e (h.qB rfl _ m)) (e))
set_option tactic.hygienic true in
theorem ev.ls{u:Up}{l:List Int}(h:ev u l v){r t:Int}{w:Option Int}(H:l.getLast?=U r)(T:t∉l)(W:u t=U (r,w)):ev (aH (aH u t none) r (U (t,w))) (l++[t]) v:=by
 induction h with
 |dZ e=>
  rename_i s
  (replace H:=KC H;subst H)
  have n:s≠t:=λq=>T (KG.mpr q.symm)
  have:=ev.cons (up:=aH (aH u t none) s (U (t,w))) (t:=s) (aP _ _ _) (.dZ (t:=t) (by(refine Z (aI _ _ n.symm) ?_;rw[aP])))
  have W:u t=U (s,w):=W
  have E:aH (aH (aH (aH u t none) s (U (t,w))) s none) t (U (s,w))=u:=by
   rw[e7,iJ _ _ _ n.symm,e7,<-W,iJ _ _ _ n,dB,<-e,dB]
  simp only[E] at this
  exact this
 |cons e h i=>
  rename_i s p a l P
  replace H:=(Qs)▸H
  rw[KM,not_or] at T
  have i:=i H T.2
  refine .cons ?_ i
  have R:r∈p::l:=List.mem_of_getLast? H
  have N:s≠r:=λq=>by
   clear i W
   subst q
   have:u s=none:=by
    clear i T R
    have:∀{u:Up} {l v},ev u l v->∀{r},l.getLast?=U r->u r=none:=by
     intro u l v h
     induction h with
     |dZ e=>intro r E;(replace E:=KC E;subst E);exact e
     |cons _ _ i=>intro r E;replace E:=(Qs)▸E;exact i E
    exact this h H
   replace e:=this▸e;cases e
  exact Z (aI _ _ N) (Z (aI _ _ (λq=>T.1 q.symm)) (e))
set_option tactic.hygienic true in
theorem ev.IT{up u:Up}{l:List Int}(h:ev up l u)(A:il up):ev u l.reverse up:=by
 induction h with
 |dZ e=>exact .dZ e
 |cons e h i=>
  rename_i t p w l u
  have n:=(ev.cons e h).hL A
  rw[K9] at n
  have H:(p::l).reverse.getLast?=U p:=by refine Z (List.getLast?_reverse) ?_;rfl
  have T:t∉(p::l).reverse:=λm=>n.1 (List.mem_reverse.mp m)
  exact Z Pv (i.ls H T (w:=w) (Z (h.same _ n.1) e))
set_option tactic.hygienic true in
theorem lH(F:b8 up E){w:Option Int}(H:up a=KF)(B:¬a6 up b a):b8 (aH up a (U (b,w))) (E++[(a,b,w)]):=by
 have f:∀x,¬a6 up x a->Fin (aH up a (U (b,w))) x:=by
  intro x
  induction F.1 x with
  |intro h i=>
   rename_i x
   intro n
   refine⟨λy v e=>?_⟩
   rw[aI _ _ (λq=>n (by exact Z q .refl))] at e
   exact i y v e λr=>n (.step e r)
 refine⟨λx=>?_,λx y v e=>?_,λx y v m=>?_⟩
 ·induction F.1 x with
  |intro h i=>
   rename_i x
   refine⟨λy v e=>?_⟩
   by_cases q:x=a
   ·clear i H;subst q
    rw[aP] at e;obtain⟨rfl,rfl⟩:=Lz (KC e)
    exact f _ B
   ·replace e:=(aI _ _ q)▸e;exact i y v e
 ·by_cases q:x=a
  ·clear f B H;subst q
   rw[aP] at e;obtain⟨rfl,rfl⟩:=Lz (KC e)
   exact .inl (K1 _ (Lc _))
  ·replace e:=(aI _ _ q)▸e
   exact(F.2.1 _ _ _ e).imp (KZ _) (KZ _)
 ·refine KS (KW.mp m) (λm=>?_) λm=>?_
  ·have key:∀{x y},up x=U (y,v)->aH up a (U (b,w)) x=U (y,v):=by
    intro x y e
    exact Z (aI _ _ λq=>by replace e:=H▸q▸e;exact(nomatch e)) e
   exact(F.2.2 _ _ _ m).imp key key
  ·cases KG.mp m
   exact .inl (aP _ _ _)
theorem qC{E:List ci}{a b:Int}{w:Option Int}(h:cf (E++[(a,b,w)]) x y):cf E x y\/(cf E x a/\cf E b y)\/(cf E x b/\cf E a y):=by
 induction h with
 |refl=>exact .inl .refl
 |u1 _ m i=>
  rcases KW.mp m with m |m
  ·exact i.imp (λk=>.u1 k m) λq=>q.imp (λk=>⟨k.1,.u1 k.2 m⟩) λk=>⟨k.1,.u1 k.2 m⟩
  ·cases KG.mp m
   exact KS i (λk=>.inr (.inl ⟨k,.refl⟩)) λr=>KS r (λk=>.inr (.inl ⟨k.1,.refl⟩)) λk=>.inl k.1
 |wz _ m i=>
  rcases KW.mp m with m |m
  ·exact i.imp (λk=>.wz k m) λq=>q.imp (λk=>⟨k.1,.wz k.2 m⟩) λk=>⟨k.1,.wz k.2 m⟩
  ·cases KG.mp m
   exact KS i (λk=>.inr (.inr ⟨k,.refl⟩)) λR=>KS R (λk=>.inl k.1) λk=>.inr (.inr ⟨k.1,.refl⟩)
end ai.M
namespace ai.L1
inductive e2 where
 |g6 (m:List Int) |jL (m:List Int) (t:Int) |join (s L:Int) (a b c d:Nat) (v:Int) |no (l top:Int) |apart (dZ o:Int) |a7 (t:Int)
 |ig (t:Int) (h:List Int) |pR (t dZ o:Int)
noncomputable def e2.v:e2->V
 |.g6 m=>.aA [.str "table",.aA (ae m),.none]
 |.jL m t=>.aA [.str "table",.aA (ae m),.int t]
 |.join s l a b c d v=>.aA [.str "join",.int s,.int l,.aA [.int a,.int b,.int c,.int d],.int v]
 |.no l t=>.aA [.str "edge",.int l,.int t]
 |.apart a b=>.aA [.str "apart",.int a,.int b]
 |.a7 t=>.aA [.str "told",.int t]
 |.ig t h=>.aA [.str "enter",.int t,.fl (ae h)]
 |.pR t a b=>.aA [.str "watch",.int t,.int a,.int b]
structure Hs where
 Y:Int->Int
 mem:Int->List Int
 aM:Int->List Int
 val:Int->Int
 bl:Int->List (Int×Int×Int)
 bK:Int->List Int
 up:M.Up
 bu:List Int->Option Int
 aC:Int->Option (Int×Int)
 a7:Int->Option (Option (Int×Int×Int))
 a4:List Int
 aw:List (Int×Int×Option Int)
 aU:Option (List Int)
 j3:Nat
 ak:List e2
 am:List Nat
 cd:List (Int×Int)
def aj(t:Int):Prop:=3<=t/\t<=11
noncomputable instance (t:Int):Decidable (aj t):=inferInstanceAs (Decidable (_/\_))
noncomputable def ar:List Int:=[3,4,5,6,7,8,9,10,11]
theorem AZ(h:aj t):∃n:Nat,n<9/\t=3+(n:Int):=by refine cV (Int.le.dest h.1) λn e=>⟨n,?_,e.symm⟩;have:=h.2;replace this:=(e).symm▸this;exact M1.mp (Int.lt_of_add_lt_add_left (a:=3) (Int.lt_of_le_of_lt this (by decide)))
theorem aR(h:aj t):t∈ar:=by exact aD (AZ h) λn l e=>Z e ((by decide:∀n:Nat,n<9->(3+(n:Int))∈ar) n l)
noncomputable def iE:List (List Int):=ar.map λr=>[0,r]
noncomputable def fC:List Int:=[12,13,14]
noncomputable def hX(f:Int->Int)(t:Int):Option V:=if aj t then U (.int (f t)) else KF
noncomputable def jC(A:AH)(k:Nat)(t:Int):Option V:=if aj t then U (.ref (A.R k t)) else KF
noncomputable def sU:Option Int->V
 |none=>.str "arguments"
 |some r=>.int r
noncomputable def g0(p:Int×Option Int):V:=.aA [.int p.1,sU p.2]
noncomputable def b'(p:Int×Int):V:=.aA [.int p.1,.int p.2]
noncomputable def ij(p:Int×Int×Int):V:=.aA [.int p.1,.int p.2.1,.int p.2.2]
noncomputable def lr(p:Int×Int×Option Int):V:=.aA [.int p.1,.int p.2.1,sU p.2.2]
noncomputable def fb:Option (Int×Int×Int)->V
 |none=>.aA [.int 1,.none]
 |some c=>.aA [.int (-1),ij c]
noncomputable def sg:Option (List Int)->V
 |none=>.none
 |some l=>.fl (ae l)
noncomputable def sN:Nat:=12
noncomputable def bN:Nat:=1
noncomputable def bC(A:AH)(M:Hs):List (String×V):=[("bank",.eQ "Bank" ⟨31,0,bN⟩),("root",.ref (A.R 1 0)),("members",.ref (A.R 2 0)),("uses",.ref (A.R 3 0)),("value",.ref (A.R 4 0)),("apart",.ref (A.R 5 0)),("watchers",.ref (A.R 6 0)),("up",.ref (A.R 7 0)),("table",.ref (A.R 8 0)),("sides",.ref (A.R 9 0)),("told",.ref (A.R 10 0)),("news",.ref (A.R 11 0)),("queue",.ref (A.R 12 0)),("clash",sg M.aU),("clash_level",.int M.j3),("trail",.ref (A.R 13 0)),("marks",.ref (A.R 14 0))]
noncomputable def dr(A:AH):List (String×V):=[("sort_names",.fl [.str "Bool",.str "Int",.str "Real"]),("sort_widths",.fl [.int 0,.int 0,.int 0]),("fun_names",.ref (A.R 37 0)),("fun_args",.ref (A.R 38 0)),("fun_results",.ref (A.R 39 0)),("fresh_count",.int 0),("term_ops",.ref (A.R 32 0)),("term_args",.ref (A.R 33 0)),("term_sorts",.ref (A.R 34 0)),("term_datas",.ref (A.R 35 0)),("numbers",.ref (A.R 36 0)),("true_number",.int 1),("false_number",.int 2)]
noncomputable def hS(n:Nat):List V:=[.str "",.str "true",.str "false",.str "app",.str "app",.str "app",.str "app",.str "num",.str "num",.str "app",.str "app",.str "app"]++NG n (.str "=")
noncomputable def eM(e:List (Int×Int)):List V:=[.aA [],.aA [],.aA [],.aA [],.aA [],.aA [],.aA [],.aA [],.aA [],.aA [.int 3],.aA [.int 4],.aA [.int 5]]++e.map b'
noncomputable def dV(n:Nat):List V:=[.int 0,.int 0,.int 0,.int 1,.int 2,.int 3,.int 4,.aA [.int 0,.int 1],.aA [.int 1,.int 1],.int 0,.int 0,.int 0]++NG n (.int 0)
structure ah(A:AH)(M:Hs):Prop where
 cl:∀l,M.aU=U l->l.length<=aN
 sn:A.st 30 0=sN
 bn:A.st 31 0=bN
 self:A.o 30 0=U (.dS (bC A M))
 Y:A.o 1 0=U (.dI ar (hX M.Y))
 mem:A.o 2 0=U (.dI ar (jC A 21))
 aM:A.o 3 0=U (.dI ar (jC A 22))
 val:A.o 4 0=U (.dI ar (hX M.val))
 bl:A.o 5 0=U (.dI ar (jC A 23))
 bK:A.o 6 0=U (.dI ar (jC A 24))
 up:A.o 7 0=U (.dI ar λt=>(M.up t).map g0)
 bu:A.o 8 0=U (.dP iE λt=>(M.bu t).map V.int)
 aC:A.o 9 0=U (.dI fC λt=>(M.aC t).map b')
 a7:A.o 10 0=U (.dI fC λt=>(M.a7 t).map fb)
 a4:A.o 11 0=U (.list (ae M.a4))
 aw:A.o 12 0=U (.list (M.aw.map lr))
 ak:A.o 13 0=U (.list (M.ak.map e2.v))
 am:A.o 14 0=U (.list (M.am.map λ(n:Nat)=>V.int n))
 ft:∀t,aj t->A.o 21 t=U (.list (ae (M.mem t)))
 c8:∀t,aj t->A.o 22 t=U (.list (ae (M.aM t)))
 ec:∀t,aj t->A.o 23 t=U (.list (Nw ij (M.bl t)))
 fT:∀t,aj t->A.o 24 t=U (.list (ae (M.bK t)))
 fy:A.o 31 0=U (.dS (dr A))
 ops:A.o 32 0=U (.list (hS M.cd.length))
 args:A.o 33 0=U (.list (eM M.cd))
 bF:A.o 35 0=U (.list (dV M.cd.length))
theorem lW{a:Type}{A:AH}{k:Nat}{t:Int}{f:Int->List a}{g:List a->List V}{xs:List V}{l:List a}(h:∀t,aj t->A.o k t=U (.list (g (f t))))(e:xs=g l):
  ∀T,aj T->(if k=k/\T=t then U (AO.list xs) else A.o k T)=U (.list (g (M.aH f t l T))):=λT n=>by
 by_cases c:T=t;·subst c;(refine Z (if_pos ⟨rfl,rfl⟩) ?_;(rw[M.aP];exact Z e rfl))
 ·exact Z (if_neg λq=>c q.2) (Z (M.aI _ _ c) (h T n))
noncomputable def Hs.kB(M:Hs)(f:Int->Int):Hs:={M with Y:=f}
noncomputable def Hs.ua(M:Hs)(f:Int->Int):Hs:={M with val:=f}
noncomputable def Hs.BG(M:Hs)(f:ai.M.Up):Hs:={M with up:=f}
noncomputable def Hs.hu(M:Hs)(f:List Int->Option Int):Hs:={M with bu:=f}
noncomputable def Hs.Bx(M:Hs)(f:Int->Option (Int×Int)):Hs:={M with aC:=f}
noncomputable def Hs.qe(M:Hs)(f:Int->Option (Option (Int×Int×Int))):Hs:={M with a7:=f}
noncomputable def Hs.eJ(M:Hs)(f:List Int):Hs:={M with a4:=f}
noncomputable def Hs.cW(M:Hs)(f:List (Int×Int×Option Int)):Hs:={M with aw:=f}
noncomputable def Hs.bR(M:Hs)(f:List e2):Hs:={M with ak:=f}
noncomputable def Hs.dg(M:Hs)(f:List Nat):Hs:={M with am:=f}
noncomputable def Hs.oe(M:Hs)(t:Int)(l:List (Int)):Hs:={M with mem:=ai.M.aH M.mem t l}
noncomputable def Hs.gX(M:Hs)(t:Int)(l:List (Int)):Hs:={M with aM:=ai.M.aH M.aM t l}
noncomputable def Hs.hk(M:Hs)(t:Int)(l:List (Int×Int×Int)):Hs:={M with bl:=ai.M.aH M.bl t l}
noncomputable def Hs.mq(M:Hs)(t:Int)(l:List (Int)):Hs:={M with bK:=ai.M.aH M.bK t l}
noncomputable def Hs.eb(M:Hs)(c:Option (List Int))(k:Nat):Hs:={M with aU:=c,j3:=k}
theorem ah.C6(H:ah A M){g:Int->Option V}{f:Int->Int}(e:g=hX f):ah (A.set 1 0 (.dI ar g)) (M.kB f):=
 {H with Y:=(by refine Z e ?_;rfl)}
theorem ah.Bs(H:ah A M){g:Int->Option V}{f:Int->Int}(e:g=hX f):ah (A.set 4 0 (.dI ar g)) (M.ua f):=
 {H with val:=(by refine Z e ?_;rfl)}
theorem ah.wX(H:ah A M){g:Int->Option V}{f:ai.M.Up}(e:g=λt=>(f t).map g0):ah (A.set 7 0 (.dI ar g)) (M.BG f):=
 {H with up:=(by refine Z e ?_;rfl)}
theorem ah.kX(H:ah A M){g:List Int->Option V}{f:List Int->Option Int}(e:g=λt=>(f t).map V.int):ah (A.set 8 0 (.dP iE g)) (M.hu f):=
 {H with bu:=(by refine Z e ?_;rfl)}
theorem ah.Al(H:ah A M){g:Int->Option V}{f:Int->Option (Int×Int)}(e:g=λt=>(f t).map b'):ah (A.set 9 0 (.dI fC g)) (M.Bx f):=
 {H with aC:=(by refine Z e ?_;rfl)}
theorem ah.rC(H:ah A M){g:Int->Option V}{f:Int->Option (Option (Int×Int×Int))}(e:g=λt=>(f t).map fb):ah (A.set 10 0 (.dI fC g)) (M.qe f):=
 {H with a7:=(by refine Z e ?_;rfl)}
theorem ah.C0(H:ah A M){xs:List V}{l:List Int}(e:xs=ae l):ah (A.set 11 0 (.list xs)) (M.eJ l):=
 {H with a4:=(by refine Z e ?_;rfl)}
theorem ah.s4(H:ah A M){xs:List V}{l:List (Int×Int×Option Int)}(e:xs=l.map lr):ah (A.set 12 0 (.list xs)) (M.cW l):=
 {H with aw:=(by refine Z e ?_;rfl)}
theorem ah.c7(H:ah A M){xs:List V}{l:List e2}(e:xs=l.map e2.v):ah (A.set 13 0 (.list xs)) (M.bR l):=
 {H with ak:=(by refine Z e ?_;rfl)}
theorem ah.Bv(H:ah A M){xs:List V}{l:List Nat}(e:xs=l.map λ(n:Nat)=>V.int n):ah (A.set 14 0 (.list xs)) (M.dg l):=
 {H with am:=(by refine Z e ?_;rfl)}
theorem ah.Ei(H:ah A M){xs:List V}{t:Int}{l:List (Int)}(e:xs=ae l):ah (A.set 21 t (.list xs)) (M.oe t l):=
 {H with ft:=lW H.ft e}
theorem ah.q2(H:ah A M){xs:List V}{t:Int}{l:List (Int)}(e:xs=ae l):ah (A.set 22 t (.list xs)) (M.gX t l):=
 {H with c8:=lW H.c8 e}
theorem ah.m'(H:ah A M){xs:List V}{t:Int}{l:List (Int×Int×Int)}(e:xs=Nw ij l):ah (A.set 23 t (.list xs)) (M.hk t l):=
 {H with ec:=lW H.ec e}
theorem ah.vf(H:ah A M){xs:List V}{t:Int}{l:List (Int)}(e:xs=ae l):ah (A.set 24 t (.list xs)) (M.mq t l):=
 {H with fT:=lW H.fT e}
theorem ah.ES(H:ah A M){c:Option (List Int)}{k:Nat}(e:∀l,c=U l->l.length<=aN):ah (A.set 30 0 (.dS (bC A (M.eb c k)))) (M.eb c k):=
 {H with cl:=e,self:=rfl}
theorem ah.BU(H:ah A M){n:Nat}{xs:List V}{l:List Int}(e:xs=ae l):ah ((A.new 11 0 n (.list xs)).set 30 0 (.dS (bC (A.new 11 0 n (.list xs)) (M.eJ l)))) (M.eJ l):=
 {H with self:=rfl,a4:=(by refine Z e ?_;rfl)}
theorem ah.ol(H:ah A M){n:Nat}{xs:List V}{l:List (Int×Int×Option Int)}(e:xs=l.map lr):ah ((A.new 12 0 n (.list xs)).set 30 0 (.dS (bC (A.new 12 0 n (.list xs)) (M.cW l)))) (M.cW l):=
 {H with self:=rfl,aw:=(by refine Z e ?_;rfl)}
theorem ah.zm(H:ah A M){n:Nat}{xs:List V}{l:List Nat}(e:xs=l.map λ(n:Nat)=>V.int n):ah ((A.new 14 0 n (.list xs)).set 30 0 (.dS (bC (A.new 14 0 n (.list xs)) (M.dg l)))) (M.dg l):=
 {H with self:=rfl,am:=(by refine Z e ?_;rfl)}
theorem ah.Ef(H:ah A M){n:Nat}{xs:List V}{t:Int}{l:List (Int)}{g:Int->Option V}(e:xs=ae l)(E:g=jC (A.new 21 t n (.list xs)) 21):ah ((A.new 21 t n (.list xs)).set 2 0 (.dI ar g)) (M.oe t l):=
 {H with mem:=(by refine Z E ?_;rfl),ft:=lW H.ft e}
theorem ah.Db(H:ah A M){n:Nat}{xs:List V}{t:Int}{l:List (Int)}{g:Int->Option V}(e:xs=ae l)(E:g=jC (A.new 22 t n (.list xs)) 22):ah ((A.new 22 t n (.list xs)).set 3 0 (.dI ar g)) (M.gX t l):=
 {H with aM:=(by refine Z E ?_;rfl),c8:=lW H.c8 e}
theorem ah.Fy(H:ah A M){n:Nat}{xs:List V}{t:Int}{l:List (Int×Int×Int)}{g:Int->Option V}(e:xs=Nw ij l)(E:g=jC (A.new 23 t n (.list xs)) 23):ah ((A.new 23 t n (.list xs)).set 5 0 (.dI ar g)) (M.hk t l):=
 {H with bl:=(by refine Z E ?_;rfl),ec:=lW H.ec e}
theorem ah.FA(H:ah A M){n:Nat}{xs:List V}{t:Int}{l:List (Int)}{g:Int->Option V}(e:xs=ae l)(E:g=jC (A.new 24 t n (.list xs)) 24):ah ((A.new 24 t n (.list xs)).set 6 0 (.dI ar g)) (M.mq t l):=
 {H with bK:=(by refine Z E ?_;rfl),fT:=lW H.fT e}
def Fr(p:Nat->Bool)(A a:AH):Prop:=∀k t,p k=true->a.o k t=A.o k t/\a.st k t=A.st k t/\a.vr k t=A.vr k t
variable {A A':AH} {M:Hs}
section
variable {p:Nat->Bool} {Ul:AH}
theorem Fr.refl:Fr p A A:=λ_ _ _=>⟨rfl,rfl,rfl⟩
theorem Fr.trans(a:Fr p A A')(b:Fr p A' Ul):Fr p A Ul:=λk t e=>⟨(b k t e).1.trans (a k t e).1,(b k t e).2.1.trans (a k t e).2.1,(b k t e).2.2.trans (a k t e).2.2⟩
theorem Fr.bU{q:Nat->Bool}(a:Fr p A A')(s:∀k,q k=true->p k=true):Fr q A A':=λk t e=>a k t (s k e)
theorem Fr.set{k:Nat}{t:Int}{x:AO}(e:p k=false):Fr p A (A.set k t x):=λK T E=>by
 have:¬(K=k/\T=t):=λq=>by replace E:=e▸q.1▸E;exact aK E
 exact⟨if_neg this,rfl,if_neg this⟩
theorem Fr.new{k n:Nat}{t:Int}{x:AO}(e:p k=false):Fr p A (A.new k t n x):=λK T E=>by
 have:¬(K=k/\T=t):=λq=>by replace E:=e▸q.1▸E;exact aK E
 exact⟨if_neg this,if_neg this,if_neg this⟩
noncomputable def pX(k:Nat):Bool:=LA k 15||LA 20 k
noncomputable def pL(k:Nat):Bool:=LA 30 k||(LA 24 k&&LA k 30)
theorem pQ(k:Nat)(h:pL k=true):pX k=true:=by unfold pL pX at*;simp only[Mo,Lu,MZ] at*;omega
noncomputable def pH(k:Nat):Bool:=LA k 15||((LA 20 k&&LA k 25)||(LA 29 k&&LA k 40))
theorem D1(k:Nat)(h:pH k=true):pX k=true:=by unfold pH at h;unfold pX;simp only[Mo,Lu,MZ] at*;lia
theorem Dr{p:Nat->Bool}(f:Fr p A A'):A'.st=λk t=>if p k=true then A.st k t else A'.st k t:=funext λk=>funext λt=>by
 by_cases c:p k=true;·exact(f k t c).2.1.trans (if_pos c).symm
 ·exact(if_neg c).symm
theorem v5(f:Fr pH A A'):bC A' M=bC A M:=by have q:=congrArg (λs=>bC ⟨s,A.o,A.vr,A.nn⟩ M) (Dr f);exact q
theorem iB(f:Fr pH A A')(q:pH k=true):jC A' k=jC A k:=by have e:∀t,A'.R k t=A.R k t:=λt=>congrArg (cq.mk k t) (f k t q).2.1;funext t;unfold jC;exact Z (e _) rfl
theorem tG(f:Fr pH A A'):dr A'=dr A:=by have q:=congrArg (λs=>dr ⟨s,A.o,A.vr,A.nn⟩) (Dr f);exact q
theorem ah.rZ(H:ah A M)(f:Fr pH A A'):ah A' M:=by
 have o:∀k t,pH k=true->A'.o k t=A.o k t:=λk t q=>(f k t q).1;exact⟨H.cl,(f 30 0 rfl).2.1.trans H.sn,(f 31 0 rfl).2.1.trans H.bn,(o 30 0 rfl).trans (H.self.trans (Z (v5 f) rfl)),(o 1 0 rfl).trans H.Y,(o 2 0 rfl).trans (H.mem.trans (Z (iB f rfl) rfl)),(o 3 0 rfl).trans (H.aM.trans (Z (iB f rfl) rfl)),
  (o 4 0 rfl).trans H.val,(o 5 0 rfl).trans (H.bl.trans (Z (iB f rfl) rfl)),(o 6 0 rfl).trans (H.bK.trans (Z (iB f rfl) rfl)),(o 7 0 rfl).trans H.up,(o 8 0 rfl).trans H.bu,(o 9 0 rfl).trans H.aC,(o 10 0 rfl).trans H.a7,
  (o 11 0 rfl).trans H.a4,(o 12 0 rfl).trans H.aw,(o 13 0 rfl).trans H.ak,(o 14 0 rfl).trans H.am,λt n=>(o 21 t rfl).trans (H.ft t n),λt n=>(o 22 t rfl).trans (H.c8 t n),λt n=>(o 23 t rfl).trans (H.ec t n),
  λt n=>(o 24 t rfl).trans (H.fT t n),(o 31 0 rfl).trans (H.fy.trans (Z (tG f) rfl)),(o 32 0 rfl).trans H.ops,(o 33 0 rfl).trans H.args,(o 35 0 rfl).trans H.bF⟩
theorem ah.fr(H:ah A M)(f:Fr pX A A'):ah A' M:=H.rZ (f.bU D1)
end
open PySem PyProof.Rows
noncomputable abbrev G1:=G0 xr
noncomputable abbrev T1:=Gg bu
noncomputable abbrev Me:V:=.eQ "Congruence" ⟨30,0,sN⟩
noncomputable abbrev Bk:V:=.eQ "Bank" ⟨31,0,bN⟩
theorem pk:G1 ("Congruence"++"."++"are_equal")=U .none:=by kernel_rfl
theorem oQ:T1 ("Congruence"++"."++"are_equal")=U eG:=by kernel_rfl
theorem mm:G1 ("Congruence"++"."++"cause_apart")=U .none:=by kernel_rfl
theorem mE:T1 ("Congruence"++"."++"cause_apart")=U d4:=by kernel_rfl
theorem DN:G1 ("Congruence"++"."++"classes")=U .none:=by kernel_rfl
theorem DL:T1 ("Congruence"++"."++"classes")=U fp:=by kernel_rfl
theorem kC:G1 ("Congruence"++"."++"conflict")=U .none:=by kernel_rfl
theorem kk:T1 ("Congruence"++"."++"conflict")=U eX:=by kernel_rfl
theorem ly:G1 ("Congruence"++"."++"inner")=U .none:=by kernel_rfl
theorem pF:T1 ("Congruence"++"."++"inner")=U gn:=by kernel_rfl
theorem ct:G1 ("Congruence"++"."++"add_term")=U .none:=by kernel_rfl
theorem kF:T1 ("Congruence"++"."++"add_term")=U eY:=by kernel_rfl
theorem yv:G1 ("Congruence"++"."++"enter")=U .none:=by kernel_rfl
theorem xo:T1 ("Congruence"++"."++"enter")=U ca:=by kernel_rfl
theorem g2:G1 ("Congruence"++"."++"signature")=U .none:=by kernel_rfl
theorem jw:T1 ("Congruence"++"."++"signature")=U ew:=by kernel_rfl
theorem lJ:G1 ("Congruence"++"."++"look_up")=U .none:=by kernel_rfl
theorem lS:T1 ("Congruence"++"."++"look_up")=U fq:=by kernel_rfl
theorem xq:G1 ("Congruence"++"."++"merge")=U .none:=by kernel_rfl
theorem xw:T1 ("Congruence"++"."++"merge")=U gz:=by kernel_rfl
theorem i5:G1 ("Congruence"++"."++"close")=U .none:=by kernel_rfl
theorem lj:T1 ("Congruence"++"."++"close")=U d9:=by kernel_rfl
theorem z3:G1 ("Congruence"++"."++"join")=U .none:=by kernel_rfl
theorem AA:T1 ("Congruence"++"."++"join")=U cm:=by kernel_rfl
theorem gs:G1 ("Congruence"++"."++"note_clash")=U .none:=by kernel_rfl
theorem nH:T1 ("Congruence"++"."++"note_clash")=U ef:=by kernel_rfl
theorem tu:G1 ("Congruence"++"."++"lengths")=U .none:=by kernel_rfl
theorem sf:T1 ("Congruence"++"."++"lengths")=U fh:=by kernel_rfl
theorem rK:G1 ("Congruence"++"."++"take_off")=U .none:=by kernel_rfl
theorem rG:T1 ("Congruence"++"."++"take_off")=U eV:=by kernel_rfl
theorem tI:G1 ("Congruence"++"."++"torn")=U .none:=by kernel_rfl
theorem y8:T1 ("Congruence"++"."++"torn")=U gV:=by kernel_rfl
theorem fE:G1 ("Congruence"++"."++"with_reason")=U .none:=by kernel_rfl
theorem mi:T1 ("Congruence"++"."++"with_reason")=U d3:=by kernel_rfl
theorem Bn:G1 ("Congruence"++"."++"hang")=U .none:=by kernel_rfl
theorem z2:T1 ("Congruence"++"."++"hang")=U gZ:=by kernel_rfl
theorem tf:G1 ("Congruence"++"."++"turn")=U .none:=by kernel_rfl
theorem Aw:T1 ("Congruence"++"."++"turn")=U bP:=by kernel_rfl
theorem ks:G1 ("Congruence"++"."++"edges_between")=U .none:=by kernel_rfl
theorem j7:T1 ("Congruence"++"."++"edges_between")=U bo:=by kernel_rfl
theorem du:G1 ("Congruence"++"."++"explain")=U .none:=by kernel_rfl
theorem r5:T1 ("Congruence"++"."++"explain")=U cM:=by kernel_rfl
theorem rf:G1 ("Congruence"++"."++"separate")=U .none:=by kernel_rfl
theorem j':T1 ("Congruence"++"."++"separate")=U eU:=by kernel_rfl
theorem jF:G1 ("Congruence"++"."++"parted_by")=U .none:=by kernel_rfl
theorem pi:T1 ("Congruence"++"."++"parted_by")=U c4:=by kernel_rfl
theorem kS:G1 ("Congruence"++"."++"explain_cause")=U .none:=by kernel_rfl
theorem kd:T1 ("Congruence"++"."++"explain_cause")=U dv:=by kernel_rfl
theorem vm:G1 ("Congruence"++"."++"joined")=U .none:=by kernel_rfl
theorem uS:T1 ("Congruence"++"."++"joined")=U fH:=by kernel_rfl
theorem ql:G1 ("Congruence"++"."++"watch")=U .none:=by kernel_rfl
theorem qO:T1 ("Congruence"++"."++"watch")=U gD:=by kernel_rfl
theorem mC:G1 ("Congruence"++"."++"place_watch")=U .none:=by kernel_rfl
theorem mj:T1 ("Congruence"++"."++"place_watch")=U dW:=by kernel_rfl
theorem iF:G1 ("Congruence"++"."++"tell_class")=U .none:=by kernel_rfl
theorem n1:T1 ("Congruence"++"."++"tell_class")=U ee:=by kernel_rfl
theorem s3:G1 ("Congruence"++"."++"tell")=U .none:=by kernel_rfl
theorem AX:T1 ("Congruence"++"."++"tell")=U gL:=by kernel_rfl
theorem sK:G1 ("Congruence"++"."++"implied")=U .none:=by kernel_rfl
theorem tQ:T1 ("Congruence"++"."++"implied")=U fm:=by kernel_rfl
theorem lx:G1 ("Congruence"++"."++"explain_told")=U .none:=by kernel_rfl
theorem hH:T1 ("Congruence"++"."++"explain_told")=U dT:=by kernel_rfl
theorem nh:G1 ("Congruence"++"."++"push_level")=U .none:=by kernel_rfl
theorem mV:T1 ("Congruence"++"."++"push_level")=U et:=by kernel_rfl
theorem oB:G1 ("Congruence"++"."++"pop_levels")=U .none:=by kernel_rfl
theorem nd:T1 ("Congruence"++"."++"pop_levels")=U cT:=by kernel_rfl
theorem zF:G1 ("Congruence"++"."++"undo")=U .none:=by kernel_rfl
theorem As:T1 ("Congruence"++"."++"undo")=U g1:=by kernel_rfl
theorem Gd:G1 ("Congruence"++"."++"leave")=U .none:=by kernel_rfl
theorem Ga:T1 ("Congruence"++"."++"leave")=U gp:=by kernel_rfl
theorem yI:G1 ("Congruence"++"."++"part")=U .none:=by kernel_rfl
theorem zV:T1 ("Congruence"++"."++"part")=U gU:=by kernel_rfl
theorem Dn:G1 ("Congruence"++"."++"unwatch")=U .none:=by kernel_rfl
theorem DE:T1 ("Congruence"++"."++"unwatch")=U fg:=by kernel_rfl
theorem yy:G1 ("Bank"++"."++"declare_fun")=U .none:=by kernel_rfl
theorem yD:T1 ("Bank"++"."++"declare_fun")=U d7:=by kernel_rfl
theorem yz:G1 ("Bank"++"."++"fresh_const")=U .none:=by kernel_rfl
theorem yC:T1 ("Bank"++"."++"fresh_const")=U d8:=by kernel_rfl
theorem q':G1 ("Bank"++"."++"op")=U .none:=by kernel_rfl
theorem vO:T1 ("Bank"++"."++"op")=U qv:=by kernel_rfl
theorem gi:G1 ("Bank"++"."++"args")=U .none:=by kernel_rfl
theorem nN:T1 ("Bank"++"."++"args")=U lG:=by kernel_rfl
theorem HT:G1 ("Bank"++"."++"sort")=U .none:=by kernel_rfl
theorem HJ:T1 ("Bank"++"."++"sort")=U lY:=by kernel_rfl
theorem sq:G1 ("Bank"++"."++"data")=U .none:=by kernel_rfl
theorem sT:T1 ("Bank"++"."++"data")=U lQ:=by kernel_rfl
theorem gh:G1 ("Bank"++"."++"make")=U .none:=by kernel_rfl
theorem s5:T1 ("Bank"++"."++"make")=U lX:=by kernel_rfl
theorem oU:G1 ("Bank"++"."++"true_term")=U .none:=by kernel_rfl
theorem jy:T1 ("Bank"++"."++"true_term")=U hJ:=by kernel_rfl
theorem vT:T1 "_law_next"=U oE:=by kernel_rfl
theorem tS:T1 "_law_terms"=U lV:=by kernel_rfl
theorem qW:T1 "_law_closed"=U c1:=by kernel_rfl
theorem nF:T1 "_law_is_apart"=U iX:=by kernel_rfl
theorem m6:T1 "_law_standing"=U iv:=by kernel_rfl
theorem oS:T1 "_law_clashes"=U jK:=by kernel_rfl
theorem pr:T1 "_law_is_good"=U jE:=by kernel_rfl
theorem tD:T1 "_law_noted"=U gW:=by kernel_rfl
theorem tH:T1 "_law_asked"=U er:=by kernel_rfl
theorem kU:T1 "_law_taken_back"=U bq:=by kernel_rfl
theorem vq:T1 "_law_done"=U oA:=by kernel_rfl
theorem oZ:T1 "_law_watched"=U ha:=by kernel_rfl
theorem Gk:T1 "law"=U lK:=by kernel_rfl
noncomputable abbrev cw(n:Nat)(m:String):=a5 G1 T1 n ("Congruence"++"."++m)
noncomputable abbrev bw(n:Nat)(m:String):=a5 G1 T1 n ("Bank"++"."++m)
variable {h:Hp} {Q:PV} {n:Nat}
theorem Hy(R:AR h A)(H:ah A M):h.o ⟨30,0,sN⟩=U (.dS (ai.L1.bC A M)):=by have:=R.dS H.self;rwa[show A.R 30 0=⟨30,0,sN⟩ from congrArg (cq.mk 30 0) H.sn] at this
theorem H3(R:AR h A)(H:ah A M):h.o ⟨31,0,bN⟩=U (.dS (dr A)):=by have:=R.dS H.fy;rwa[show A.R 31 0=⟨31,0,bN⟩ from congrArg (cq.mk 31 0) H.bn] at this
theorem bj{v:V}{P:V->Prop}(R:AR h A)(H:ah A M)(e:bc (ai.L1.bC A M) f=U v)(q:P v):bB (ai.bC h ⟨30,0,sN⟩) (r7 f P):=by exact ab (fZ (Hy R H)) (ab e q)
theorem b7{k:Nat}{g:Int->Option V}{i:Int}{v:V}{P:V->Prop}(R:AR h A)(H:ah A M)(e:bc (ai.L1.bC A M) f=U (.ref (A.R k 0)))(E:A.o k 0=U (.dI u g))(G:g i=U v)(q:P v):bB (ai.bC h ⟨30,0,sN⟩) (r7 f λc=>bB (kY h c (.int i)) P):=
 bj R H e (cK R E G q)
theorem vR{v:V}{P:V->Prop}(R:AR h A)(H:ah A M)(e:bc (dr A) f=U v)(q:P v):bB (ai.bC h ⟨31,0,bN⟩) (r7 f P):=by exact ab (fZ (H3 R H)) (ab e q)
theorem bX{P:Prop}(R:AR h A)(H:ah A M)(e:bc (ai.L1.bC A M) m=KF)(g:G1 ("Congruence"++"."++m)=U .none)(q:P):
  (bB (ai.bC h ⟨30,0,sN⟩) (Gb m))/\bB (G1 ("Congruence"++"."++m)) (sP P):=by
 exact⟨ab (fZ (Hy R H)) e,ab g q⟩
theorem o0{P:Prop}(R:AR h A)(H:ah A M)(e:bc (dr A) m=KF)(g:G1 ("Bank"++"."++m)=U .none)(q:P):
  (bB (ai.bC h ⟨31,0,bN⟩) (Gb m))/\bB (G1 ("Bank"++"."++m)) (sP P):=by
 exact⟨ab (fZ (H3 R H)) e,ab g q⟩
theorem vC{fs':List (String×V)}{P:Hp->Prop}(R:AR h A)(H:ah A M)(e:bA (ai.L1.bC A M) f v=fs')(q:∀h',AR h' (A.set 30 0 (.dS fs'))->P h'):
  bB (ai.bC h ⟨30,0,sN⟩) (BE ⟨30,0,sN⟩ f v P h):=by
 exact hR ((congrArg (cq.mk 30 0) H.sn:A.R 30 0=⟨30,0,sN⟩)) (gm R H.self (by refine(?_ :17<900);decide) e q)
theorem aS{c:V}(q:Q c h):Ex.wp G1 C (.aE c) a Q h:=q
theorem ax{P:List V->Hp->Prop}(q:P [] h):Ex.bh G1 C [] a P h:=q
theorem yN(q:newList xs Q h):qI .list [.fl xs] Q h:=q
theorem wL{xs:List V}(l:xs.length<=aN)(q:Q (.aA xs) h):qI .tuple [.fl xs] Q h:=(⟨l,q⟩:xs.length<=aN/\Q (.aA xs) h)
theorem hA{step:V->List V->(List V->Hp->Prop)->Hp->Prop}{acc:List V}{P:List V->Hp->Prop}(q:P acc h):iter step (n+1) (.bp []) acc P h:=q
theorem x5{step:V->List V->(List V->Hp->Prop)->Hp->Prop}{acc:List V}{P:List V->Hp->Prop}(q:step v acc (λa=>iter step n (.bp l) a P) h):iter step (n+1) (.bp (v::l)) acc P h:=q
theorem rd{f:Int->Int}(h:aj x):hX f x=U (.int (f x)):=if_pos h
theorem j4(h:aj x):jC A k x=U (.ref (A.R k x)):=if_pos h
theorem kK{f:Int->Int}(h:aj t):fd (hX f) t (U (.int v))=hX (ai.M.aH f t v):=by
 funext x;refine(?_ :(if x=t then _ else(if aj x then _ else _))=(if aj x then U (V.int (if x=t then v else f x)) else KF));by_cases c:x=t;·exact Z (if_pos c) (Z (if_pos (Z c h)) (Z (if_pos c) rfl))
 ·exact Z (if_neg c) (Z (if_neg c) rfl)
theorem dq{a:Type}{f:Int->Option a}{e:a->V}(v:Option a):fd (λx=>(f x).map e) t (v.map e)=λx=>(ai.M.aH f t v x).map e:=by
 funext x;refine(?_ :(if x=t then _ else _)=Nu e (if x=t then v else f x));by_cases c:x=t;·exact Z (if_pos c) (Z (if_pos c) rfl)
 ·exact Z (if_neg c) (Z (if_neg c) rfl)
theorem eZ{a:Type}{f:List Int->Option a}{e:a->V}(v:Option a):fd (λx=>(f x).map e) t (v.map e)=λx=>(ai.M.aH f t v x).map e:=by
 funext x;refine(?_ :(if x=t then _ else _)=Nu e (if x=t then v else f x));by_cases c:x=t;·exact Z (if_pos c) (Z (if_pos c) rfl)
 ·exact Z (if_neg c) (Z (if_neg c) rfl)
theorem oc(a b:Int):eqv h (.int a) (.int b)=U (decide (a=b)):=by
 refine(?_ :U (a==b)=_);by_cases c:a=b;·subst c;(exact Z (decide_eq_true rfl) (Z (beq_self_eq_true _) rfl))
 ·exact Z (decide_eq_false c) (Z (beq_eq_false_iff_ne.mpr c) rfl)
theorem IG{a b:Int}{P:Bool->Prop}(q:P (decide (a=b))):bB (gI h .eq (.int a) (.int b)) P:=ab (oc a b) q
theorem IK{a b:Int}{P:Bool->Prop}(q:P (!decide (a=b))):bB (gI h .ne (.int a) (.int b)) P:=ab (show(eqv h (.int a) (.int b)).map (!·)=U (!decide (a=b)) by rw[oc];rfl) q
theorem bW{P R:Prop}{c:Bool}(e:c=true)(p:P):if c=true then P else R:=Z (if_pos e) p
theorem bI{P R:Prop}{c:Bool}(e:c=false)(p:R):if c=true then P else R:=Z e (Z (if_neg LW) p)
theorem c3(h:aj t):t=3\/t=4\/t=5\/t=6\/t=7\/t=8\/t=9\/t=10\/t=11:=by have M:=λ{a:Int} {l:List Int} (m:t∈a::l)=>KM.mp m;exact(M (aR h)).imp id λm=>(M m).imp id λm=>(M m).imp id λm=>(M m).imp id λm=>(M m).imp id λm=>(M m).imp id λm=>(M m).imp id λm=>(M m).imp id KG.mp
noncomputable def fM(t:Int):Bool:=t==7||t==8
noncomputable def v7(t:Int):String:=if fM t then "num" else "app"
noncomputable def lc(t:Int):List Int:=(ai.M.arg t).toList
noncomputable def t5(t:Int):V:=if fM t then .aA [.int (t-7),.int 1] else if aj t/\9<=t then .int 0 else .int (t-2)
theorem Ce(R:AR h A)(H:ah A M)(T:aj t)(q:Q (.str (v7 t)) h):bw (n+1) "op" [Bk,.int t] Q h:=by
 have e:jt (hS M.cd.length) t=U (.str (v7 t)):=by clear q;rcases c3 T with rfl |rfl |rfl |rfl |rfl |rfl |rfl |rfl |rfl<;>rfl
 exact ab vO ⟨rfl,vR R H rfl (jO R H.ops e ⟨_,_,.refl,q⟩)⟩
theorem ja(R:AR h A)(H:ah A M)(T:aj t)(q:Q (.aA (ae (lc t))) h):bw (n+1) "args" [Bk,.int t] Q h:=by
 have e:jt (eM M.cd) t=U (.aA (ae (lc t))):=by clear q;rcases c3 T with rfl |rfl |rfl |rfl |rfl |rfl |rfl |rfl |rfl<;>rfl
 exact ab nN ⟨rfl,vR R H rfl (jO R H.args e ⟨_,_,.refl,q⟩)⟩
theorem xK(R:AR h A)(H:ah A M)(T:aj t)(q:Q (t5 t) h):bw (n+1) "data" [Bk,.int t] Q h:=by
 have e:jt (dV M.cd.length) t=U (t5 t):=by clear q;rcases c3 T with rfl |rfl |rfl |rfl |rfl |rfl |rfl |rfl |rfl<;>rfl
 exact ab sT ⟨rfl,vR R H rfl (jO R H.bF e ⟨_,_,.refl,q⟩)⟩
theorem F9(R:AR h A)(H:ah A M)(q:Q (.int 1) h):bw (n+1) "true_term" [Bk] Q h:=
 ab jy ⟨rfl,vR R H rfl ⟨_,_,.refl,q⟩⟩
theorem w9(R:AR h A)(H:ah A M)(c:aj a)(B:aj b)(q:Q (.bool (decide (M.Y a=M.Y b))) h):cw (n+1) "are_equal" [Me,.int a,.int b] Q h:=
 ab oQ ⟨rfl,b7 R H rfl H.Y (rd c) (b7 R H rfl H.Y (rd B) (IG ⟨_,_,.refl,q⟩))⟩
theorem pg(R:AR h A)(H:ah A M)(e:M.aU=KF)(q:Q .none h):cw (n+1) "conflict" [Me] Q h:=by exact ab kk ⟨rfl,bj R H (v:=sg M.aU) rfl (Z e (⟨_,_,.refl,q⟩))⟩
theorem o'(R:AR h A)(H:ah A M){l:List Int}(e:M.aU=U l)(q:Q (.fl (ae l)) h):cw (n+1) "conflict" [Me] Q h:=by refine ab kk ⟨rfl,bj R H (v:=sg M.aU) rfl (Z e (bj R H (v:=sg M.aU) rfl (Z e (ax (yN (bz (xs:=ae l) (by unfold ae;exact Z (KE _) (H.cl l e)) ?_))))))⟩;exact⟨_,_,.refl,q⟩
theorem j2(R:AR h A)(H:ah A M){l:List Int}(b:l.length<=aN)(m:M.am.length<=aN)(q:∀h' A',AR h' A'->ah A' (M.eb (U l) M.am.length)->Fr pL A A'->Q .none h'):cw (n+1) "note_clash" [Me,.fl (ae l)] Q h:=by
 have c:∀L,U l=U L->L.length<=aN:=λL e=>by(replace e:=KC e;subst e);exact b
 refine ab nH ⟨rfl,vC R H (fs':=ai.L1.bC A (M.eb (U l) M.j3)) rfl λf r=>?_⟩;have a:=H.ES (c:=U l) (k:=M.j3) c;refine bj r a rfl (cE r a.am ⟨by refine Z (KE _) ?_;exact m,vC r a (fs':=ai.L1.bC A (M.eb (U l) M.am.length)) ?_ λg d=>q _ _ d (a.ES c) (.trans (.set rfl) (.set rfl))⟩);refine Z (KE _) ?_;rfl
theorem Cr(R:AR h A)(H:ah A M)(T:aj t)(b:(M.mem t).length<=aN)(B:(M.aM t).length<=aN)(a:(M.bl t).length<=aN)(b4:(M.bK t).length<=aN)
  (q:Q (.aA [.int (M.mem t).length,.int (M.aM t).length,.int (M.bl t).length,.int (M.bK t).length]) h):cw (n+1) "lengths" [Me,.int t] Q h:=by
 have e:∀l:List Int,(ae l).length=l.length:=λl=>KE _;have E:∀l:List (Int×Int×Int),(Nw ij l).length=l.length:=λl=>KE _;refine ab sf ⟨rfl,b7 R H rfl H.mem (j4 T) (cE R (H.ft t T) ⟨by refine Z (e _) ?_;exact b,b7 R H rfl H.aM (j4 T) (cE R (H.c8 t T) ⟨by refine Z (e _) ?_;exact B,b7 R H rfl H.bl (j4 T) (cE R (H.ec t T) ⟨by refine Z (E _) ?_;exact a,
  b7 R H rfl H.bK (j4 T) (cE R (H.fT t T) ⟨by refine Z (e _) ?_;exact b4,(by decide:4<=aN),_,_,.refl,?_⟩)⟩)⟩)⟩)⟩;simp only[e,e,e,E];exact q
theorem gK(R:AR h A)(H:ah A M)(T:aj t)(q:Q (.aA (ae (lc t))) h):cw (n+2) "inner" [Me,.int t] Q h:=by
 refine ab pF ⟨rfl,bj R H rfl (o0 R H rfl q' (Ce R H T (aS ?_)))⟩;induction c:fM t with
 |true=>
  have e:gI h .eq (.str (v7 t)) (.str "app")=U false:=by unfold v7;refine Z c ?_;rfl
  refine ab e ⟨by decide,_,_,.refl,?_⟩;have:lc t=[]:=by unfold fM at c;clear e;rcases c3 T with rfl |rfl |rfl |rfl |rfl |rfl |rfl |rfl |rfl<;>first |rfl |(exact absurd c (by decide))
  replace q:=this▸q;exact q
 |false=>
  have e:gI h .eq (.str (v7 t)) (.str "app")=U true:=by unfold v7;refine Z c ?_;rfl
  exact ab e (bj R H rfl (o0 R H rfl gi (ja R H T ⟨_,_,.refl,q⟩)))
theorem f9{u:Int}(e:ai.M.arg t=U u):(t=9/\u=3)\/(t=10/\u=4)\/(t=11/\u=5):=by
 unfold ai.M.arg at e;split at e;·obtain rfl:=KC e;exact .inl ⟨‹_›,rfl⟩
 ·split at e
  ·obtain rfl:=KC e;exact .inr (.inl ⟨‹_›,rfl⟩)
  ·split at e
   ·obtain rfl:=KC e;exact .inr (.inr ⟨‹_›,rfl⟩)
   ·exact al e
theorem aZ{u:Int}(e:ai.M.arg t=U u):aj t/\aj u:=by rcases f9 e with⟨rfl,rfl⟩ |⟨rfl,rfl⟩ |⟨rfl,rfl⟩<;>exact⟨by decide,by decide⟩
theorem t8{u:Int}(e:ai.M.arg t=U u):t5 t=.int 0:=by rcases f9 e with⟨rfl,rfl⟩ |⟨rfl,rfl⟩ |⟨rfl,rfl⟩<;>rfl
theorem i1{u:Int}(e:ai.M.arg t=U u):lc t=[u]:=by unfold lc;refine Z e ?_;rfl
noncomputable def eP(M:Hs)(u:Int):List Int:=[0,M.Y u]
theorem qD(R:AR h A)(H:ah A M){u:Int}(e:ai.M.arg t=U u)(q:Q (.aA (ae (eP M u))) h):cw (n+2) "signature" [Me,.int t] Q h:=by refine ay (aZ e) λT b=>ab jw ⟨rfl,bj R H rfl (o0 R H rfl sq (xK R H T (Z (t8 e) ⟨by decide,bj R H rfl (o0 R H rfl gi (ja R H T (Z (i1 e) (ab (a:=.bp [.int u]) rfl ⟨2,b7 R H rfl H.Y (rd b) ⟨by decide,hA (bz (by refine(?_ :1<=aN);decide) (ax (wL (by refine(?_ :1<=aN);decide) ?_)))⟩⟩))))⟩)))⟩;exact⟨(λq=>nomatch q),(λq=>nomatch q),(by decide:2<=aN),_,_,.refl,q⟩
inductive RI{a:Type}(enc:a->V)(R:List a)(B:List a->List a->Prop)(f:Option V->Option V->Option V->aV)(H:Hp)(l:List V)(c:aV)(h:Hp):Prop
 |mk (P p:List a) (x y z:Option V) (E:h=H) (L:l=p.map enc) (e:R=P++p) (b:B P p) (d':c=f x y z)
section
variable {α:Type} {enc:α->V} {t:V->aV->(aV->Hp->Prop)->Hp->Prop} {b:aV->PS->Hp->Prop} {Q:PS} {r:cq} {L:List α} {x y z:Option V}
theorem RI.HE{B:List α->List α->Prop}{f:Option V->Option V->Option V->aV}{l:List V}{a:aV}(I:RI enc L B f h l a h')(same:h.o r=U (.list xs)):h'.o r=U (.list xs):=by obtain⟨d,D,x,y,z,E,b,e,H,d'⟩:=I;exact Z E same
theorem RI.go{B:List α->List α->Prop}{f:Option V->Option V->Option V->aV}(step:∀D p d x y z (K:aV->Hp->Prop),L=D++p::d->B D (p::d)->(∀x y z,B (D++[p]) d->K (f x y z) h)->t (enc p) (f x y z) (n0 b (Fl.seq K Q)) h)
  (v:V)(l:List V)(a:aV)(h':Hp)(K:aV->Hp->Prop)(I:RI enc L B f h (v::l) a h')(k:∀a h',RI enc L B f h l a h'->K a h'):t v a (n0 b (Fl.seq K Q)) h':=by
 obtain⟨D,d,x,y,z,c,E,e,H,d'⟩:=I;subst c d';cases d with
 |nil=>exact(nomatch E)
 |cons p d=>obtain⟨rfl,rfl⟩:=Ly E;exact step D p d x y z K e H λx y z H=>k _ _ ⟨D++[p],d,x,y,z,rfl,rfl,e.trans (RG D p d),H,rfl⟩
theorem RI.cY{B:List α->List α->Prop}{f:Option V->Option V->Option V->aV}(cY:∀x y z,B L []->Q .next (f x y z) h)(a:aV)(h':Hp)(I:RI enc L B f h [] a h'):Q .next a h':=by
 obtain⟨d,D,x,y,z,E,l,e,H,d'⟩:=I;subst E d';induction D using Lx with
 |cons=>exact(nomatch l)
 |nil=>exact cY x y z (e.trans (K8 d)▸H)
theorem qE(B:List α->List α->Prop)(f:Option V->Option V->Option V->aV)(same:h.o r=U (.list (L.map enc)))(step:∀d p D x y z (K:aV->Hp->Prop),L=d++p::D->B d (p::D)->(∀x y z,B (d++[p]) D->K (f x y z) h)->t (enc p) (f x y z) (n0 b (Fl.seq K Q)) h)
  (cY:∀x y z,B L []->Q .next (f x y z) h)(i:B [] L):∃n,dp t b n (.cZ r 0) (f x y z) Q h:=
 i0 (RI enc L B f h) (λl a h' I=>I.HE same) (λv l a h' K _=>RI.go step v l a h' K) (RI.cY cY) ⟨[],L,x,y,z,rfl,rfl,rfl,i,rfl⟩
theorem se(B:List α->List α->Prop)(f:Option V->Option V->Option V->aV)(step:∀d p D x y z (K:aV->Hp->Prop),L=d++p::D->B d (p::D)->(∀x y z,B (d++[p]) D->K (f x y z) h)->t (enc p) (f x y z) (n0 b (Fl.seq K Q)) h)
  (cY:∀x y z,B L []->Q .next (f x y z) h)(i:B [] L):∃n,dp t b n (.bp (L.map enc)) (f x y z) Q h:=
 iV (RI enc L B f h) (RI.go step) (RI.cY cY) _ ⟨[],L,x,y,z,rfl,rfl,rfl,i,rfl⟩
end
theorem ints_of:∀l:List Int,iH (ae l)=U l
 |[]=>rfl
 |i::r=>by refine((Z (ints_of r) ?_):(iH (ae r)).map _=_);rfl
theorem bb(l:List Int):(ae l).length=l.length:=KE _
theorem hC(l:List Int)(r:Int):kt (ae l) (.int r)=U (decide (r∈l)):=by
 have b:(ae l).all (V.hj 7)=true:=by simp only[LS];intro x h;refine aD (Lo.mp h) λi _ E=>?_;clear h;subst E;rfl
 have c:((ae l).any λy=>y.same (.int r))=decide (r∈l):=by
  rw[PQ,RH,decide_eq_true_iff];constructor
  ·rintro q;refine aD q λx h e=>?_
   refine aD (Lo.mp h) λi H a=>?_;clear h;subst a;have:(i==r)=true:=e;simp only[beq_iff_eq] at this;exact this▸H
  ·intro R
   exact⟨.int r,Lo.mpr ⟨r,R,rfl⟩,(beq_self_eq_true r:(r==r)=true)⟩
 unfold kt;refine Z b (Z c ?_);rfl
theorem iA(l:List Int):(cG l).length=l.length:=by
 have r0:∀(a:Int) (l:List Int),(j0 (λa b=>decide (a<=b)) a l).length=l.length+1:=by
  intro a l;induction l with
  |nil=>rfl
  |cons b r i=>
   refine(?_ :(if decide (a<=b)=true then a::b::r else b::j0 _ a r).length=_);split;·rfl
   ·refine Z Lr (Z i ?_);rfl
 induction l with
 |nil=>rfl
 |cons a r i=>exact(r0 a _).trans (congrArg (·+1) i)
theorem hD{l:List Int}(H:l.length<64)(q:Q (.fl (ae (cG l))) h):qI .sorted [.fl (ae l)] Q h:=by refine(⟨by refine Z (bb _) ?_;exact H,ab (ints_of l) (bz ?_ q)⟩:(ae l).length<64/\bB (iH (ae l)) λl=>newList (ae (cG l)) Q h);exact Z (bb _) (Z (iA _) (KB (Lq H) (by decide)))
theorem Bo{a b:List V}(L:a.length<=aN)(c:b.length<=aN)(l:(a++b).length<=aN)(q:Q (.fl (a++b)) h):ub .add (.fl a) (.fl b) Q h:=(⟨L,c,bz l q⟩:a.length<=aN/\b.length<=aN/\newList (a++b) Q h)
theorem fB(a b:List Int):ae a++ae b=ae (a++b):=La.symm
theorem j9{a b:Int}{P R:Prop}(e:a=b)(p:P):if V.same (.int a) (.int b)=true then P else R:=bW ((beq_iff_eq.mpr e:(a==b)=true)) p
theorem ju{a b:Int}{P R:Prop}(e:a≠b)(p:R):if V.same (.int a) (.int b)=true then P else R:=bI ((beq_eq_false_iff_ne.mpr e:(a==b)=false)) p
theorem mx{a b:Int}{P R:Prop}(e:a≠b)(p:P):if(!V.same (.int a) (.int b))=true then P else R:=bW (show(!(a==b))=true by rw[beq_eq_false_iff_ne.mpr e];rfl) p
theorem oY{a b:Int}{P R:Prop}(e:a=b)(p:R):if(!V.same (.int a) (.int b))=true then P else R:=bI (show(!(a==b))=false by rw[beq_iff_eq.mpr e];rfl) p
noncomputable def eB(l:List Int)(r:Int):List Int:=if r=0\/r∈l then l else cG (l++[r])
theorem iW{l:List Int}(H:l.length<63)(q:Q (.fl (ae (eB l r))) h):cw (n+1) "with_reason" [Me,.fl (ae l),.int r] Q h:=by
 refine ab mi ⟨rfl,?_⟩;by_cases c:r=0
 ·refine j9 (a:=r) (b:=0) c ⟨_,_,.refl,?_⟩
  have:eB l r=l:=if_pos (.inl c);replace q:=this▸q;exact q
 ·refine ju (a:=r) (b:=0) c (ab (hC l r) ?_)
  by_cases d:r∈l
  ·refine bW (decide_eq_true d) ⟨_,_,.refl,?_⟩
   have:eB l r=l:=if_pos (.inr d);replace q:=this▸q;exact q
  ·refine bI (decide_eq_false d) ?_
   have:eB l r=cG (l++[r]):=if_neg (by rintro(e |e);exact c e;exact d e);replace q:=this▸q;refine bz (xs:=[V.int r]) (by refine(?_ :1<=aN);decide) ?_;have C:(ae l).length<=aN:=Z (bb _) (KB (Lq H) (by decide));have f:(ae l++[V.int r]).length<=aN:=by(refine Z KH (Z (bb _) ?_));exact KB (Oj H) (by decide)
   refine Bo C (by refine(?_ :1<=aN);decide) f (ax ?_);exact Z ((fB l [r]:ae l++[V.int r]=ae (l++[r]))) (hD (Z KH (PL H)) ⟨_,_,.refl,q⟩)
noncomputable def gv(a b:List Int):List Int:=cG (a++b.filter λr=>decide (r∉a))
theorem qd{step:V->List V->(List V->Hp->Prop)->Hp->Prop}{p:Int->Bool}{P:List V->Hp->Prop}{l:List Int}(H:l.length<=aN)
  (s:∀i∈l,∀acc (K:List V->Hp->Prop),acc.length<aN->K (acc++(if p i=true then U (V.int i) else KF).toList) h->step (.int i) acc K h)(q:P (ae (l.filter p)) h):iter step ((ae l).length+1) (.bp (ae l)) [] P h:=by
 refine zq (f:=λv=>match v with |.int i=>if p i=true then U (V.int i) else KF |_=>KF) (ae l) [] (by refine Z (bb _) ?_;simpa using H) (λv b acc K A k=>?_) ?_
 ·refine aD (Lo.mp b) λi d e=>?_;clear b;subst e
  exact s i d acc K A k
 ·have:(ae l).filterMap (λv=>match v with |.int i=>if p i=true then U (V.int i) else KF |_=>KF)=ae (l.filter p):=by
   clear s q H;induction l with
   |nil=>rfl
   |cons a r I=>
    refine(?_ :NH _ (V.int a::ae r)=_);refine Z Lg (Z MI ?_);dsimp only;by_cases c:p a=true;·exact Z (if_pos c) (Z (if_pos c) (congrArg (V.int a::·) I))
    ·exact Z (if_neg c) (Z (if_neg c) I)
  exact Z (OG _) (Z this q)
theorem rb{a b:List Int}(H:a.length+b.length<64)(q:Q (.fl (ae (gv a b))) h):cw (n+1) "joined" [Me,.fl (ae a),.fl (ae b)] Q h:=by
 have c:(64:Nat)<=aN:=by decide
 have f:(b.filter λr=>decide (r∉a)).length<=b.length:=M6 _ _;refine ab uS ⟨rfl,⟨_,qd (p:=λr=>decide (r∉a)) (l:=b) (bM (ip _ _ _) 0x7813113179404134048 rfl H c) (λi I acc K A k=>?_) ?_⟩⟩
 ·refine ab (show(kt (ae a) (.int i)).map (!·)=U (!decide (i∈a)) by rw[hC];rfl) ?_
  by_cases d:i∈a
  ·rw[if_neg (by simp[d])] at k
   refine bI (by refine Z (decide_eq_true d) ?_;rfl) ?_;simpa using k
  ·rw[if_pos (by simp[d])] at k
   refine bW (by refine Z (decide_eq_false d) ?_;rfl) ⟨A,k⟩
 ·exact bz (Z (bb _) (bM (lP _ _ _ _) 0x78131131a9404134048137a rfl H c f)) (Bo (Z (bb _) (bM (ip _ _ _) 0x7813113197404134048 rfl H c)) (Z (bb _) (bM (lP _ _ _ _) 0x78131131a9404134048137a rfl H c f)) (by simp only[KH,bb,bb];exact bM (lP _ _ _ _) 0x1879131131a7404134049138a rfl H c f) (ax (Z (fB _ _) (hD (by rw[KH];exact bM (ip _ _ _) 0x113187404131131974041389 rfl H f) ⟨_,_,.refl,q⟩))))
theorem aX{a:Nat}(e:S3 (a+1) b=true):a<b:=Md e
theorem cU{k:Nat}(R:AR h A)(e:A.o k t=U (.list xs)):It.start h (.ref (A.R k t))=U (.cZ (A.R k t) 0):=nj (R.io e)
theorem ib{k:Nat}{v:V}(R:AR h A)(e:A.o k t=U (.list xs))(l:xs.length<aN)(q:∀h',AR h' (A.set k t (.list (xs++[v])))->Q .none h'):
  bB (kindOf h (.ref (A.R k t))) λb=>vx b "append"=true/\(kindOf h (.ref (A.R k t))=U b/\ih h (.ref (A.R k t)) "append" [v] Q):=
 ab (aq R e) ⟨rfl,aq R e,bH R e l q⟩
theorem a1{a:aV}{i:Nat}{v:V}{P:List V->Hp->Prop}(e:(a[i]?).join=U v)(q:P [v] h):Ex.bh G1 C [.var i] a P h:=ab e q
def tL(M:Hs)(dZ o:Int)(c:Int×Int×Int):Prop:=M.Y c.1=dZ/\M.Y c.2.1=o/\(c∈M.bl dZ\/(c.2.1,c.1,c.2.2)∈M.bl dZ)
noncomputable def JA:List St:=match c4.body with
 |.for _ _ b::_=>b
 |_=>[]
noncomputable def yL(dZ o:Int)(x y z:Option V):aV:=[U Me,U (.int dZ),U (.int o),x,y,z]
theorem D8{P:PS}(R:AR h A)(H:ah A M){dZ o z:Int}(nx:aj x)(N:aj y)
  (Q:M.Y x=o->M.Y y=dZ->∀a,P (.ret (ij (y,x,z))) a h)(q:P .next (yL dZ o (U (.int x)) (U (.int y)) (U (.int z))) h):
  St.bh G1 (a5 G1 T1 n) (JA.drop 1) (yL dZ o (U (.int x)) (U (.int y)) (U (.int z))) P h:=by
 refine b7 R H rfl H.Y (rd nx) ?_;by_cases c:M.Y x=o
 ·refine j9 c (b7 R H rfl H.Y (rd N) ?_)
  by_cases C:M.Y y=dZ;·exact j9 C ⟨(by decide:3<=aN),Q c C _⟩
  ·exact ju C q
 ·exact ju c q
theorem Ew{P:PS}(R:AR h A)(H:ah A M){dZ o z:Int}(nx:aj x)(N:aj y)(Q:M.Y x=dZ->M.Y y=o->∀a,P (.ret (ij (x,y,z))) a h)
  (b:M.Y x=o->M.Y y=dZ->∀a,P (.ret (ij (y,x,z))) a h)(q:P .next (yL dZ o (U (.int x)) (U (.int y)) (U (.int z))) h):
  St.bh G1 (a5 G1 T1 n) JA (yL dZ o (U (.int x)) (U (.int y)) (U (.int z))) P h:=by
 have ud:=D8 (n:=n) R H nx N b q;refine b7 R H rfl H.Y (rd nx) ?_;by_cases c:M.Y x=dZ
 ·refine j9 c (b7 R H rfl H.Y (rd N) ?_)
  by_cases C:M.Y y=o;·exact j9 C ⟨(by decide:3<=aN),Q c C _⟩
  ·exact ju C ud
 ·exact ju c ud
theorem pv(R:AR h A)(H:ah A M){dZ:Int}(d:aj dZ)(N:∀p∈M.bl dZ,aj p.1/\aj p.2.1)(f:Q .none h)(q:∀c,tL M dZ o c->Q (ij c) h):
  cw (n+1) "parted_by" [Me,.int dZ,.int o] Q h:=by
 refine ab pi ⟨rfl,b7 R H rfl H.bl (j4 d) (ab (cU R (H.ec dZ d)) (qE (L:=M.bl dZ) (λ_ _=>True) (yL dZ o) (R.io (H.ec dZ d)) (λD p B x y z K e _ k=>?_) (λx y z _=>⟨_,_,.refl,f⟩) trivial))⟩;have P:p∈M.bl dZ:=Z e (K1 _ KJ);exact⟨rfl,aX rfl,aX rfl,aX rfl,Ew (n:=n) (z:=p.2.2) R H (N p P).1 (N p P).2 (λa b g=>⟨_,_,.refl,q p ⟨a,b,.inl P⟩⟩) (λa b g=>⟨_,_,.refl,q (p.2.1,p.1,p.2.2) ⟨b,a,.inr P⟩⟩) (k _ _ _ trivial)⟩
def Dy(M:Hs)(a b:Int)(c:Int×Int×Int):Prop:=(c=(M.val (M.Y a),M.val (M.Y b),0)/\M.val (M.Y a)≠0/\M.val (M.Y b)≠0)\/tL M (M.Y a) (M.Y b) c
theorem t'(R:AR h A)(H:ah A M)(g:aj a)(i:aj b)(r:aj (M.Y a))(B:aj (M.Y b))(E:M.Y a≠M.Y b)(N:∀p∈M.bl (M.Y a),aj p.1/\aj p.2.1)(f:Q .none h)(q:∀c,Dy M a b c->Q (ij c) h):
  cw (n+2) "cause_apart" [Me,.int a,.int b] Q h:=by
 refine ab mE ⟨rfl,b7 R H rfl H.Y (rd g) (b7 R H rfl H.Y (rd i) ⟨(by decide:2<=aN),rfl,aX rfl,aX rfl,ju E (b7 R H rfl H.val (rd r) ?_)⟩)⟩;by_cases C:M.val (M.Y a)=0;·exact oY C (bX R H rfl jF (pv R H r N ⟨_,_,.refl,f⟩ λc d=>⟨_,_,.refl,q c (.inr d)⟩))
 ·refine mx C (b7 R H rfl H.val (rd B) ?_)
  by_cases e:M.val (M.Y b)=0;·exact oY e (bX R H rfl jF (pv R H r N ⟨_,_,.refl,f⟩ λc d=>⟨_,_,.refl,q c (.inr d)⟩))
  ·exact mx e (b7 R H rfl H.val (rd r) (b7 R H rfl H.val (rd B) ⟨(by decide:3<=aN),_,_,.refl,q (M.val (M.Y a),M.val (M.Y b),0) (.inl ⟨rfl,C,e⟩)⟩))
theorem be{b:Type}(l:List b){a:b}:(l++[a]).length=l.length+1:=KH
theorem db(l:List e2)(e:e2):l.map e2.v++[e.v]=(l++[e]).map e2.v:=by refine Z La ?_;rfl
noncomputable def pT(k:Nat):Bool:=!(Lk k 10||(Lk k 11||Lk k 13))
noncomputable def d2(M:Hs)(t:Int)(c:Option (Int×Int×Int)):Hs:=((M.qe (ai.M.aH M.a7 t (U c))).eJ (M.a4++[t])).bR (M.ak++[.a7 t])
inductive lu(M:Hs)(t:Int):Hs->Prop
 |u4:lu M t M
 |eq {l r}:M.a7 t=KF->M.aC t=U (l,r)->M.Y l=M.Y r->lu M t (d2 M t KF)
 |ne {l r c}:M.a7 t=KF->M.aC t=U (l,r)->M.Y l≠M.Y r->Dy M l r c->lu M t (d2 M t (U c))
structure mD(M:Hs):Prop where
 Y:∀t,aj t->aj (M.Y t)
 bl:∀t,aj t->∀p∈M.bl t,aj p.1/\aj p.2.1
 aC:∀t p,M.aC t=U p->aj p.1/\aj p.2/\t∈fC
theorem mD.jV{m:Hs}{t:Int}(s:mD M)(T:lu M t m):mD m:=by induction T<;>exact⟨s.Y,s.bl,s.aC⟩
theorem pu{c:Option (Int×Int×Int)}{b:aV}{P:PS}(R:AR h A)(H:ah A (M.qe (ai.M.aH M.a7 t (U c))))(L:M.a4.length<aN)(lt:M.ak.length<aN)
  (q:∀h' A',AR h' A'->ah A' (d2 M t c)->Fr pT A A'->P .next (U Me::U (.int t)::b) h'):
  St.bh G1 C [.expr (.az (.ao (.var 0) "news") "append" [.var 1]),.expr (.az (.ao (.var 0) "trail") "append" [.aA [.aE (.str "told"),.var 1]])] (U Me::U (.int t)::b) P h:=by
 refine bj R H rfl (ib R H.a4 (Z (bb _) L) λe r=>?_);have a:=H.C0 (l:=M.a4++[t]) (fB M.a4 [t]);exact bj r a rfl (ab (aq r a.ak) ⟨rfl,(by decide:2<=aN),aq r a.ak,bH r a.ak (Z (KE _) lt) λf d=>q _ _ d (a.c7 (l:=M.ak++[e2.a7 t]) (db M.ak (e2.a7 t))) (.trans (.set rfl) (.set rfl))⟩)
theorem jV(R:AR h A)(H:ah A M)(S:mD M){s:Int×Int}(a:M.aC t=U s)(L:M.a4.length<aN)(lt:M.ak.length<aN)(q:∀h' A' m,AR h' A'->ah A' m->lu M t m->Fr pT A A'->Q .none h'):
  cw (n+3) "tell" [Me,.int t] Q h:=by
 obtain⟨l,r⟩:=s;refine cH (S.aC t _ a) λN b T=>ab AX ⟨rfl,bj R H rfl (q8 R H.a7 ?_)⟩;induction e:M.a7 t with
 |some c=>exact bW rfl ⟨_,_,.refl,q _ _ _ R H .u4 .refl⟩
 |none=>
  refine bI rfl (b7 R H rfl H.aC (v:=b' (l,r)) (by refine Z a ?_;rfl) (uP rfl (aX rfl) (aX rfl) (bX R H rfl pk (w9 R H N b ?_))));by_cases c:M.Y l=M.Y r;·exact bW (decide_eq_true c) ⟨(by decide:2<=aN),bj R H rfl (cD R H.a7 T λi d=>pu (c:=KF) d (H.rC (dq (U KF))) L lt λj o f g F=>q _ _ _ f g (.eq e a c) (.trans (.set rfl) F))⟩
  ·exact bI (decide_eq_false c) (bX R H rfl mm (t' R H N b (S.Y _ N) (S.Y _ b) c (S.bl _ (S.Y _ N)) ⟨aX rfl,⟨_,_,.refl,q _ _ _ R H .u4 .refl⟩⟩ λk K=>⟨aX rfl,(by decide:2<=aN),bj R H rfl (cD R H.a7 T λi d=>pu (c:=U k) d (H.rC (dq (U (U k)))) L lt λj o f g F=>q _ _ _ f g (.ne e a c K) (.trans (.set rfl) F))⟩))
theorem Gr{a b c:Nat}(h:a+(b+1)<=c):a<c:=bM (ip _ _ _) 0x11378131113978 rfl h
theorem Ho{a A b c:Nat}(h:a+(b+1)<=c)(h':A<=a+1):A+b<=c:=bM (lP _ _ _ _) 0x18791311138a9137113a rfl h h'
inductive iT:Hs->List Int->Hs->Prop
 |nil (N:Hs):iT N [] N
 |cons {N a n:Hs} {t:Int} {l:List Int}:lu N t a->iT a l n->iT N (t::l) n
theorem lu.I6{m:Hs}{t:Int}(T:lu M t m):m.a4.length<=M.a4.length+1/\m.ak.length<=M.ak.length+1/\m.bK=M.bK/\m.aC=M.aC:=by
 induction T with
 |u4=>exact⟨Lv _,Lv _,rfl,rfl⟩
 |eq=>exact⟨KQ (be _),KQ (be _),rfl,rfl⟩
 |ne=>exact⟨KQ (be _),KQ (be _),rfl,rfl⟩
inductive JZ(A:AH)(M:Hs)(t:Int)(l:List V)(b:aV)(h:Hp):Prop
 |mk (A':AH) (m:Hs) (x:Option V) (L:List Int) (e:l=ae L) (d':b=[U Me,U (.int t),x]) (R:AR h A') (H:ah A' m) (S:mD m) (F:Fr pT A A') (w:m.bK=M.bK) (s:m.aC=M.aC) (B:m.a4.length+L.length<=aN) (c:m.ak.length+L.length<=aN)
  (T:∀a,iT m L a->iT M (M.bK t) a)
theorem m1(R:AR h A)(H:ah A M)(S:mD M)(i:aj t)(o:∀w∈M.bK t,∃s,M.aC w=U s)(N:M.a4.length+(M.bK t).length<=aN)(lt:M.ak.length+(M.bK t).length<=aN)
  (q:∀h' A' m,AR h' A'->ah A' m->iT M (M.bK t) m->Fr pT A A'->Q .none h'):cw (n+4) "tell_class" [Me,.int t] Q h:=by
 refine ab n1 ⟨rfl,b7 R H rfl H.bK (j4 i) ?_⟩;have W:=H.fT t i;refine ab (cU R W) (i0 (xs:=ae (M.bK t)) (JZ A M t) ?_ ?_ ?_ ⟨A,M,KF,M.bK t,rfl,rfl,R,H,S,.refl,rfl,rfl,N,lt,λ_ T=>T⟩)
 ·intro l j h' I
  obtain⟨A',m,x,L,d,d',r,H',S',F,b,a,B,c,T⟩:=I;have e:A'.R 24 t=A.R 24 t:=congrArg (cq.mk 24 t) (F 24 t rfl).2.1;exact hR e (r.io ((F 24 t rfl).1.trans W))
 ·intro v l j h' K V I k
  obtain⟨A',m,x,L,d,d',r,H',S',F,b,a,B,c,T⟩:=I;subst d';refine aD (Lo.mp V) λw p E=>?_;clear V;subst E;cases L with
  |nil=>exact(nomatch d)
  |cons w' L=>
   obtain⟨f,rfl⟩:=Ly d
   (injection f with f;subst f)
   simp only[Lr] at B c;obtain⟨s,u⟩:=o w p;exact⟨aX rfl,bX r H' rfl s3 (a1 rfl (jV r H' S' ((congrFun a w).trans u) (Gr B) (Gr c) λh1 y z C D T1 G=>fj T1.I6 λJ P X Z=>k _ _ ⟨y,z,_,L,rfl,rfl,C,D,S'.jV T1,F.trans G,X.trans b,Z.trans a,Ho B J,Ho c P,λg T2=>T g (.cons T1 T2)⟩))⟩
 ·intro j h' I
  obtain⟨A',m,x,L,d,d',r,H',S',F,b,a,B,c,T⟩:=I;clear c B;cases L with
  |cons=>exact(nomatch d)
  |nil=>exact q _ _ _ r H' (T _ (.nil _)) F
theorem a2{a:aV}{i j:Nat}{v w:V}{P:List V->Hp->Prop}(e:(a[i]?).join=U v)(E:(a[j]?).join=U w)(q:P [v,w] h):Ex.bh G1 C [.var i,.var j] a P h:=ab e (ab E q)
theorem a3{a:aV}{i j k:Nat}{v w x:V}{P:List V->Hp->Prop}(e:(a[i]?).join=U v)(b:(a[j]?).join=U w)(E:(a[k]?).join=U x)(q:P [v,w,x] h):Ex.bh G1 C [.var i,.var j,.var k] a P h:=ab e (ab b (ab E q))
theorem uB(R:AR h A)(H:ah A M)(lt:M.ak.length<=aN)(L:M.am.length<aN)(q:∀h' A',AR h' A'->ah A' (M.dg (M.am++[M.ak.length]))->Fr pL A A'->Q .none h'):cw (n+1) "push_level" [Me] Q h:=by
 refine ab mV ⟨rfl,bj R H rfl (ab (aq R H.am) ⟨rfl,bj R H rfl (cE R H.ak ⟨by refine Z (KE _) ?_;exact lt,aq R H.am,bH R H.am (by refine Z (KE _) ?_;exact L) λa r=>?_⟩)⟩)⟩;refine q _ _ r (H.Bv (l:=M.am++[M.ak.length]) ?_) (.set rfl)
 (refine Z La (Z (KE _) ?_));rfl
theorem dA(l:List Int):de (.aA (ae l))=U l:=ints_of l
noncomputable def cL(M:Hs)(t u:Int):Hs:=if M.bu (eP M u)=U t then(M.bR (M.ak++[.jL (eP M u) t])).hu (ai.M.aH M.bu (eP M u) KF) else M
theorem ke(R:AR h A)(H:ah A M):kindOf h (.ref (A.R 8 0))=U false:=rx R H.bu
theorem zR(R:AR h A)(H:ah A M){u:Int}(e:ai.M.arg t=U u)(lt:M.ak.length<aN)(q:∀h' A',AR h' A'->ah A' (cL M t u)->Fr pL A A'->Q .none h'):cw (n+3) "take_off" [Me,.int t] Q h:=by
 refine ab rG ⟨rfl,bX R H rfl g2 (a1 rfl (qD R H e ⟨aX rfl,bj R H rfl (ab (ke R H) ⟨rfl,ke R H,yO R H.bu (dA _) ?_⟩)⟩))⟩;induction c:M.bu (eP M u) with
 |none=>refine q _ _ R ?_ .refl;unfold cL;exact Z (if_neg (by exact Z c λe=>nomatch e)) H
 |some o=>
  by_cases d:o=t
  ·clear e;subst d
   have E:cL M o u=(M.bR (M.ak++[.jL (eP M u) o])).hu (ai.M.aH M.bu (eP M u) KF):=if_pos c;replace q:=E▸q;refine j9 (a:=o) (b:=o) rfl (bj R H rfl (ab (aq R H.ak) ⟨rfl,(by decide:3<=aN),aq R H.ak,bH R H.ak (Z (KE _) lt) λi r=>?_⟩));have f:=H.c7 (l:=M.ak++[e2.jL (eP M u) o]) (db M.ak (e2.jL (eP M u) o));refine bj r f rfl (y7 r f.bu (dA _) (v:=.int o) (by refine((Z c ?_):(M.bu (eP M u)).map V.int=_);rfl) λj g=>?_);exact q _ _ g (f.kX (eZ KF)) (.trans (.set rfl) (.set rfl))
  ·refine ju (a:=o) (b:=t) d (q _ _ R ?_ .refl)
   unfold cL;exact Z (if_neg (by exact Z c λe=>d (KC e))) H
noncomputable def cx(M:Hs)(t u:Int):Hs:=match M.bu (eP M u) with
 |none=>(M.bR (M.ak++[.g6 (eP M u)])).hu (ai.M.aH M.bu (eP M u) (U t))
 |some o=>if M.Y o=M.Y t then M else M.cW (M.aw++[(t,o,KF)])
theorem rJ{u:Int}(h:aj (M.Y u)):eP M u∈iE:=Lo.mpr ⟨_,aR h,rfl⟩
theorem CB(R:AR h A)(H:ah A M){u:Int}(e:ai.M.arg t=U u)(N:aj (M.Y u))(T:∀o,M.bu (eP M u)=U o->aj o)(lt:M.ak.length<aN)(L:M.aw.length<aN)(q:∀h' A',AR h' A'->ah A' (cx M t u)->Fr pL A A'->Q .none h'):
  cw (n+3) "look_up" [Me,.int t] Q h:=by
 refine ab lS ⟨rfl,bX R H rfl g2 (a1 rfl (qD R H e ⟨aX rfl,bj R H rfl (ab (ke R H) ⟨rfl,ke R H,yO R H.bu (dA _) ?_⟩)⟩))⟩;induction c:M.bu (eP M u) with
 |none=>
  have E:cx M t u=(M.bR (M.ak++[.g6 (eP M u)])).hu (ai.M.aH M.bu (eP M u) (U t)):=by unfold cx;exact Z c rfl
  replace q:=E▸q;refine⟨aX rfl,bj R H rfl (ab (aq R H.ak) ⟨rfl,(by decide:3<=aN),aq R H.ak,bH R H.ak (Z (KE _) lt) λb r=>?_⟩)⟩;have a:=H.c7 (l:=M.ak++[e2.g6 (eP M u)]) (db M.ak (e2.g6 (eP M u)));exact bj r a rfl (nU r a.bu (dA _) (rJ N) λg f=>q _ _ f (a.kX (eZ (U t))) (.trans (.set rfl) (.set rfl)))
 |some o=>
  refine⟨aX rfl,b7 R H rfl H.Y (rd (T o c)) (b7 R H rfl H.Y (rd (aZ e).1) ?_)⟩;by_cases d:M.Y o=M.Y t
  ·have E:cx M t u=M:=by unfold cx;exact Z c (if_pos d)
   replace q:=E▸q;exact oY d (q _ _ R H .refl)
  ·have E:cx M t u=M.cW (M.aw++[(t,o,KF)]):=by unfold cx;exact Z c (if_neg d)
   replace q:=E▸q;exact mx d (bj R H rfl (ab (aq R H.aw) ⟨rfl,(by decide:3<=aN),aq R H.aw,bH R H.aw (Z (KE _) L) λb r=>q _ _ r (H.s4 (l:=M.aw++[(t,o,KF)]) (by refine Z La ?_;rfl)) (.set rfl)⟩))
theorem rW{l:List (Int×Int×Option Int)}{P:Hp->Prop}(R:AR h A)(H:ah A M)(L:(l.map lr).length<=aN)(q:∀h' A',AR h' A'->ah A' (M.cW l)->Fr pL A A'->P h'):
  newList (l.map lr) (λv h=>bB (ai.bC h ⟨30,0,sN⟩) (BE ⟨30,0,sN⟩ "queue" v P h)) h:=by
 exact c6 12 0 R L λn b r=>hR (congrArg (cq.mk 30 0) H.sn:(A.new 12 0 n (.list (l.map lr))).R 30 0=⟨30,0,sN⟩) (gm r (fs:=ai.L1.bC A M) (fs':=ai.L1.bC (A.new 12 0 n (.list (l.map lr))) (M.cW l)) H.self (aX rfl) rfl λc a=>q _ _ a (H.ol rfl) (.trans (.new rfl) (.set rfl)))
noncomputable def IZ(k:Nat):Bool:=!(Lk k 11||Lk k 30)
theorem wI{P:Hp->Prop}(R:AR h A)(H:ah A M)(L:(ae l).length<=aN)(q:∀h' A',AR h' A'->ah A' (M.eJ l)->Fr IZ A A'->P h'):
  newList (ae l) (λv h=>bB (ai.bC h ⟨30,0,sN⟩) (BE ⟨30,0,sN⟩ "news" v P h)) h:=by
 exact c6 11 0 R L λn b r=>hR (congrArg (cq.mk 30 0) H.sn:(A.new 11 0 n (.list (ae l))).R 30 0=⟨30,0,sN⟩) (gm r (fs:=ai.L1.bC A M) (fs':=ai.L1.bC (A.new 11 0 n (.list (ae l))) (M.eJ l)) H.self (aX rfl) rfl λc a=>q _ _ a (H.BU rfl) (.trans (.new rfl) (.set rfl)))
theorem CT{l:List Nat}{P:Hp->Prop}(R:AR h A)(H:ah A M)(L:(l.map λ(n:Nat)=>V.int n).length<=aN)(q:∀h' A',AR h' A'->ah A' (M.dg l)->Fr pL A A'->P h'):
  newList (l.map λ(n:Nat)=>V.int n) (λv h=>bB (ai.bC h ⟨30,0,sN⟩) (BE ⟨30,0,sN⟩ "marks" v P h)) h:=by
 exact c6 14 0 R L λn b r=>hR (congrArg (cq.mk 30 0) H.sn:(A.new 14 0 n (.list (l.map λ(n:Nat)=>V.int n))).R 30 0=⟨30,0,sN⟩) (gm r (fs:=ai.L1.bC A M) (fs':=ai.L1.bC (A.new 14 0 n (.list (l.map λ(n:Nat)=>V.int n))) (M.dg l)) H.self (aX rfl) rfl λc a=>q _ _ a (H.zm rfl) (.trans (.new rfl) (.set rfl)))
theorem pJ(R:AR h A)(H:ah A M)(e:M.aw=[])(q:∀h' A',AR h' A'->ah A' M->Fr pL A A'->Q .none h'):cw (n+1) "close" [Me] Q h:=by
 refine ab lj ⟨rfl,aX rfl,1,bj R H rfl (cE R H.aw ⟨Z e (K3 _),?_⟩)⟩
 ·refine Z e (rW (l:=[]) R H (K3 _) λb c r a F=>q _ _ r ?_ F)
  have:M.cW []=M:=by refine hR e ?_;rfl
  rwa[this] at a
theorem eu(R:AR h A)(H:ah A M)(T:aj t)(e:M.aw=[])(q:∀h' A',AR h' A'->ah A' M->Fr pL A A'->Q .none h'):cw (n+2) "add_term" [Me,.int t] Q h:=by
 refine ab kF ⟨rfl,c6 15 0 (xs:=[.int t]) R (by refine(?_ :1<=aN);decide) λm g r=>⟨aX rfl,2,?_⟩⟩;have c:ah (A.new 15 0 m (.list [.int t])) M:=H.fr (.new rfl);have N:(!(hX M.Y t).isSome)=false:=by refine Z (rd T) ?_;rfl
 refine cE r (k:=15) (t:=0) rfl ⟨by refine(?_ :1<=aN);decide,jO r (k:=15) (t:=0) (i:= -1) rfl rfl ⟨aX rfl,bz (K3 _) ⟨aX rfl,bj r c rfl (fO r c.Y (bI N ⟨K3 _,?_⟩))⟩⟩⟩;refine ab (aq r (k:=15) (t:=0) rfl) ⟨rfl,aq r (k:=15) (t:=0) rfl,pS (xs:=[]) r (k:=15) (t:=0) rfl (by decide) λj a=>?_⟩;have b:ah ((A.new 15 0 m (.list [.int t])).set 15 0 (.list [])) M:=c.fr (.set rfl);exact bj a b rfl (fO a b.Y (bI N (cE a (k:=15) (t:=0) rfl ⟨K3 _,bX a b rfl i5 (pJ a b e λl o d f F=>q _ _ d f (.trans (.trans (.new rfl) (.set rfl)) F))⟩)))
end ai.L1
namespace ai.M
abbrev eN:=Int×Int×Option Int
inductive cn(up:Up):Int->List eN->Int->Prop
 |nil {t}:up t=KF->cn up t [] t
 |cons {t p w L r}:up t=U (p,w)->cn up p L r->cn up t ((t,p,w)::L) r
noncomputable def dG:List eN->Up->Up
 |[],u=>u
 |e::L,u=>dG L (aH u e.1 KF)
noncomputable def eR:List eN->Up->Up
 |[],u=>u
 |e::L,u=>eR L (aH u e.2.1 (U (e.1,e.2.2)))
theorem pe(u:Up)(a b:Int):aH (aH u a KF) b KF=aH (aH u b KF) a KF:=by
 by_cases h:a=b;·exact Z h rfl
 ·exact iJ _ _ _ h
theorem tc:∀(L:List eN) (u:Up) (t:Int),dG L (aH u t KF)=aH (dG L u) t KF
 |[],_,_=>rfl
 |e::L,u,t=>by refine(?_ :dG L (aH (aH u t KF) e.1 KF)=aH (dG L (aH u e.1 KF)) t KF);rw[pe,tc L]
theorem oj:∀(L:List eN) (u:Up) (k:Int) (v),k∉L.map (·.2.1)->eR L (aH u k v)=aH (eR L u) k v
 |[],_,_,_,_=>rfl
 |e::L,u,k,v,h=>by have h:=not_or.mp λq=>h (KM.mpr q);exact((Z (iJ _ _ _ h.1) (Z (oj L _ _ _ h.2) rfl)):eR L (aH (aH u k v) e.2.1 _)=aH (eR L (aH u e.2.1 _)) k v)
set_option tactic.hygienic true in
theorem cn.turn{up:Up}{t r:Int}{L:List eN}(A:il up)(h:cn up t L r):ev up (t::L.map (·.2.1)) (eR L (dG L up)):=by
 induction h with
 |nil e=>exact .dZ e
 |cons e h i=>
  rename_i t p w L r
  have T:=ev.cons e i
  have n:=K9.mp (T.hL A)
  have E:eR ((t,p,w)::L) (dG ((t,p,w)::L) up)=aH (aH (eR L (dG L up)) t none) p (U (t,w)):=by
   refine(?_ :eR L (aH (dG L (aH up t none)) p (U (t,w)))=_)
   (exact Z (tc _ _ _) (Z (oj _ _ _ _ (K9.mp n.2).1) (Z (oj _ _ _ _ λm=>n.1 (KP _ m)) rfl)))
  simp only[<-E] at T
  exact T
theorem cn.lb{up:Up}{t r:Int}{L:List eN}(h:cn up t L r):L.map (·.1)++[r]=t::L.map (·.2.1):=by
 induction h with
 |nil=>rfl
 |cons e h i=>exact congrArg (_::·) i
theorem cn.hL{up:Up}{t r:Int}{L:List eN}(A:il up)(h:cn up t L r):(L.map (·.1)).Nodup:=by have:=(h.turn A).hL A;rw[<-h.lb] at this;exact this.sublist (List.sublist_append_left _ _)
theorem cn.at{up:Up}{t r:Int}{L:List eN}(h:cn up t L r):∀e∈L,up e.1=U e.2:=by
 induction h with
 |nil=>intro e m;cases m
 |cons e h i=>
  intro x m;rcases KM.mp m with rfl |m
  ·exact e
  ·exact i x m
theorem cn.top{up:Up}{t r:Int}{L:List eN}(h:cn up t L r):up r=none:=by
 induction h with
 |nil e=>exact e
 |cons _ _ i=>exact i
set_option tactic.hygienic true in
theorem cn.exists{up:Up}{t:Int}(f:Fin up t):∃L r,cn up t L r:=by
 induction f with
 |intro h i=>
  rename_i x
  induction e:up x with
  |none=>exact⟨_,_,.nil e⟩
  |some p=>
   obtain⟨y,w⟩:=p
   exact g9 (i y w e) λL r k=>⟨_,_,.cons e k⟩
theorem cn.qB{up:Up}{t r:Int}{L:List eN}(h:cn up t L r):∀x,a6 up t x↔x∈L.map (·.1)\/x=r:=by
 induction h with
 |nil e=>
  intro x;refine⟨λq=>.inr ?_,λq=>q.elim (λq=>nomatch q) λq=>Z q (.refl)⟩;induction q with
  |refl=>rfl
  |step E _=>replace E:=e▸E;cases E
 |cons e h i=>
  intro x;simp only[Ln,KM,or_assoc,<-i x];constructor
  ·intro q
   induction q with
   |refl=>exact .inl rfl
   |step E q=>replace E:=e▸E;obtain⟨rfl,rfl⟩:=Lz (KC E);exact .inr q
  ·rintro(q |q)
   ·exact Z q (.refl)
   ·exact .step e q
theorem nX:∀(L:List eN) (u:Up) (x:Int),x∉L.map (·.1)->dG L u x=u x
 |[],_,_,_=>rfl
 |e::L,u,x,h=>by have h:=not_or.mp λq=>h (KM.mpr q);exact((Z (nX L _ x h.2) (Z (aI _ _ h.1) rfl)):dG L (aH u e.1 KF) x=u x)
theorem qx:∀(L:List eN) (e:eN) (u:Up),dG (L++[e]) u=aH (dG L u) e.1 KF
 |[],_,_=>rfl
 |x::L,e,u=>qx L e _
theorem pD:∀(L:List eN) (e:eN) (u:Up),eR (L++[e]) u=aH (eR L u) e.2.1 (U (e.1,e.2.2))
 |[],_,_=>rfl
 |x::L,e,u=>pD L e _
end ai.M
namespace ai.L1
open ai.M (cn il dG eR aH)
variable {h:Hp} {A:AH} {M:Hs} {Q:PV} {n:Nat}
noncomputable def HY(k:Nat):Bool:=!(Lk k 15)
noncomputable def p7(k:Nat):Bool:=!(Lk k 7)
theorem wj(k:Nat)(h:pX k=true):HY k=true:=by
 unfold pX at h;unfold HY;induction e:Lk k 15 with
 |false=>rfl
 |true=>replace h:=(L0 e)▸h;exact h
theorem HO(k:Nat)(h:pL k=true):p7 k=true:=by
 unfold pL at h;unfold p7;induction e:Lk k 7 with
 |false=>rfl
 |true=>replace h:=(L0 e)▸h;exact h
noncomputable def pl(e:ai.M.eN):V:=.aA [.int e.1,g0 e.2]
theorem cJ{p:Nat->Bool}(f:Fr p A a){k:Nat}(e:p k=true):a.R k t=A.R k t:=congrArg (cq.mk k t) (f k t e).2.1
noncomputable def Be(A:AH)(t c0:Int)(x y:Option V):aV:=[U Me,U (.int t),U (.ref (A.R 15 0)),U (.int c0),x,y]
theorem Bi{p:Nat->Bool}(f:Fr p A B)(e:p 15=true):Be B t r x y=Be A t r x y:=by unfold Be;exact Z (cJ f e) rfl
inductive TI(A:AH)(M:Hs)(t r:Int)(L:List ai.M.eN)(m:Nat)(b:aV)(h:Hp):Prop
 |mk (a:AH) (L1 l:List ai.M.eN) (c0:Int) (x:Option V) (d':b=Be a t c0 x KF) (R:AR h a) (F:Fr HY A a) (o:a.o 15 0=U (.list (L1.map pl))) (P:cn M.up c0 l r) (e:L1++l=L) (m:l.length=m)
inductive DI(B:AH)(M:Hs)(t r:Int)(L:List ai.M.eN)(g:List ai.M.eN->ai.M.Up)(l:List V)(c:aV)(h:Hp):Prop
 |mk (a:AH) (L1 b:List ai.M.eN) (x y:Option V) (E:l=b.map pl) (d':c=Be B t r x y) (R:AR h a) (F:Fr p7 B a) (H:ah a (M.BG (g L1))) (e:L1++b=L)
theorem Ip{P:PS}{f:aV}{L:List ai.M.eN}(d':f=Be A t t KF KF)(R:AR h A)(H:ah A M)(j:L.length<=9)(o:A.o 15 0=U (.list []))(p:cn M.up t L r)
  (q:∀h' b x,AR h' b->Fr HY A b->b.o 15 0=U (.list (L.map pl))->St.bh G1 (a5 G1 T1 n) (bP.body.drop 2) (Be b t r x KF) P h'):
  St.bh G1 (a5 G1 T1 n) (bP.body.drop 1) f P h:=by
 subst d';refine h9 (TI A M t r L) ?_ ⟨A,[],L,t,KF,rfl,R,.refl,o,p,rfl,rfl⟩;intro m f y K I k;obtain⟨i,L1,l,c0,x,d',a,F,c,g,E,s⟩:=I;subst d';have d:ah i M:=H.fr (F.bU wj);refine bj a d rfl (q8 a d.up ?_);cases g with
 |@cons _ p w l _ e g=>refine bW (by refine Z e ?_;rfl) (b7 a d rfl d.up (v:=g0 (p,w)) (by refine Z e ?_;rfl) ⟨aX rfl,ab (aq a c) ⟨rfl,(by decide:2<=aN),aq a c,bH a c (KU (KB (KB (KQ (KE _)) (KB (Lf _ _) (KQ (KH.symm.trans (congrArg Oh E))))) j) (by decide):(L1.map pl).length<aN) λz u=>⟨aX rfl,?_⟩⟩⟩);exact k _ (hR s (LU _)) _ _ ⟨i.set 15 0 (.list (L1.map pl++[pl (c0,p,w)])),L1++[(c0,p,w)],l,p,_,rfl,u,F.trans (.set rfl),by refine Z La ?_;rfl,g,K7 ..▸E,rfl⟩
 |nil e=>exact bI (by refine Z e ?_;rfl) (q _ _ _ a F ((K8 L1).symm.trans E▸c))
theorem Ht{P:PS}{L:List ai.M.eN}(R:AR h A)(H:ah A M)(N:(L.map (·.1)).Nodup)(T:∀e∈L,M.up e.1=U e.2)(o:A.o 15 0=U (.list (L.map pl)))
  (q:∀h' c x y,AR h' c->Fr p7 A c->ah c (M.BG (dG L M.up))->St.bh G1 (a5 G1 T1 n) (bP.body.drop 3) (Be c t r x y) P h'):
  St.bh G1 (a5 G1 T1 n) (bP.body.drop 2) (Be A t r x y) P h:=by
 refine ab (cU R o) (i0 (xs:=L.map pl) (DI A M t r L λa=>dG a M.up) ?_ ?_ ?_ ⟨A,[],L,_,_,rfl,rfl,R,.refl,H,rfl⟩)
 ·intro l p h' I
  obtain⟨c,a,b,x,y,E,d',s,F,H',e⟩:=I;exact cJ (k:=15) (t:=0) F rfl▸s.io ((F 15 0 rfl).1.trans o)
 ·intro v l p u K C I k
  obtain⟨w,a,b,x,y,E,d',i,j,d,f⟩:=I;subst d';cases b with
  |nil=>exact(nomatch E)
  |cons e b=>
   obtain⟨rfl,rfl⟩:=Ly E;have z:e.1∉a.map (·.1):=λm=>by simp only[<-f,La] at N;exact(L7.mp N).2.2 _ m _ KJ rfl
   exact⟨rfl,aX rfl,aX rfl,bj i d rfl (zh i d.up (v:=g0 e.2) (congrArg (Nu g0) ((ai.M.nX _ _ _ z).trans (T e (hR f (K1 _ KJ))):dG a M.up e.1=U e.2)) λD B=>k _ _ ⟨_,a++[e],b,_,_,rfl,rfl,B,j.trans (.set rfl),ai.M.qx ..▸d.wX (dq KF),K7 ..▸f⟩)⟩
 ·intro p u I
  obtain⟨w,a,b,x,y,E,d',i,j,d,f⟩:=I;subst d';cases b with
  |cons=>exact(nomatch E)
  |nil=>have g:=q _ _ x y i j ((K8 a).symm.trans f▸d);rw[Bi j rfl] at g;exact g
theorem GR{P:PS}(R:AR h A)(H:ah A (M.BG (dG L M.up)))(N:∀e∈L,aj e.2.1)(o:A.o 15 0=U (.list (L.map pl)))
  (q:∀h' a x y,AR h' a->Fr p7 A a->ah a (M.BG (eR L (dG L M.up)))->St.bh G1 (a5 G1 T1 n) (bP.body.drop 4) (Be a t r x y) P h'):
  St.bh G1 (a5 G1 T1 n) (bP.body.drop 3) (Be A t r x y) P h:=by
 refine ab (cU R o) (i0 (xs:=L.map pl) (DI A M t r L λC=>eR C (dG L M.up)) ?_ ?_ ?_ ⟨A,[],L,_,_,rfl,rfl,R,.refl,H,rfl⟩)
 ·intro l m h' I
  obtain⟨a,d,b,x,y,E,d',p,F,H',e⟩:=I;exact cJ (k:=15) (t:=0) F rfl▸p.io ((F 15 0 rfl).1.trans o)
 ·intro v l m s K z I k
  obtain⟨u,d,b,x,y,E,d',f,i,c,j⟩:=I;subst d';cases b with
  |nil=>exact(nomatch E)
  |cons e b=>obtain⟨rfl,rfl⟩:=Ly E;exact⟨rfl,aX rfl,aX rfl,(by decide:2<=aN),bj f c rfl (cD f c.up (aR (N e (hR j (K1 _ KJ)))) λB w=>k _ _ ⟨_,d++[e],b,_,_,rfl,rfl,w,i.trans (.set rfl),ai.M.pD ..▸c.wX (dq (U (e.1,e.2.2))),K7 ..▸j⟩)⟩
 ·intro m s I
  obtain⟨u,d,b,x,y,E,d',f,i,c,j⟩:=I;subst d';cases b with
  |cons=>exact(nomatch E)
  |nil=>have g:=q _ _ x y f i ((K8 d).symm.trans j▸c);replace g:=(Bi i rfl)▸g;exact g
theorem ET{a:aV}{K:aV->Hp->Prop}(q:K a h):ai.Tg.bh G1 C [] [] a K h:=q
theorem turn(R:AR h A)(H:ah A M)(A0:il M.up)(N:∀x p,M.up x=U p->aj x/\aj p.1)(P:cn M.up t L r)(q:∀h' a,AR h' a->ah a (M.BG (eR L (dG L M.up)))->Fr pL A a->Q (.int r) h'):
  cw (n+1) "turn" [Me,.int t] Q h:=by
 have d:=P.hL A0;have l:L.length<=9:=KB (KQ (KE _).symm) (hv (u:=ar) d λx m=>by
  refine aD (Lo.mp m) λe c E=>?_;clear m;subst E;exact aR (N _ _ (P.at e c)).1);refine ab Aw ⟨rfl,c6 15 0 (xs:=[]) R (K3 _) λg C i=>⟨(by decide:2<=aN),rfl,aX rfl,aX rfl,ET (cB ?_)⟩⟩;have f:Fr HY A (A.new 15 0 g (.list [])):=.new rfl;exact Ip (t:=t) rfl i (H.fr (f.bU wj)) l rfl P λD G x j F o=>Ht j (H.fr ((f.trans F).bU wj)) d P.at o λI J x y s b v=>GR s v (λe m=>(N _ _ (P.at e m)).2) ((b 15 0 rfl).1.trans o) λK S x y w z B=>
  ⟨_,_,.refl,q _ _ w B ((((f.trans F).bU λk e=>wj k (pQ k e)).trans (b.bU HO)).trans (z.bU HO))⟩
end ai.L1
namespace ai.M
noncomputable def cA(L:List eN)(r:Int):List Int:=L.map (·.1)++[r]
theorem cn.mem{up:Up}{t r:Int}{L:List eN}(h:cn up t L r)(x:Int):x∈cA L r↔a6 up t x:=by unfold cA;simp only[h.qB,KW,KG]
theorem cn.yE{up:Up}{t r:Int}{L:List eN}(A:il up)(h:cn up t L r):(cA L r).Nodup:=by have:=(h.turn A).hL A;rwa[<-h.lb] at this
inductive sz(up:Up):Int->List eN->Int->Prop
 |nil {t}:sz up t [] t
 |ls {t L x p w}:sz up t L x->up x=U (p,w)->sz up t (L++[(x,p,w)]) p
theorem sz.qB{up:Up}{t x:Int}{L:List eN}(h:sz up t L x):∀c,a6 up t c↔c∈L.map (·.1)\/a6 up x c:=by
 induction h with
 |nil=>intro c;exact⟨.inr,λq=>q.elim (λq=>nomatch q) id⟩
 |ls h e i=>
  intro c;simp only[i c,La,KW,or_assoc];refine or_congr S6 ?_;constructor
  ·intro q
   induction q with
   |refl=>exact .inl (Lc _)
   |step E q=>replace E:=e▸E;obtain⟨rfl,rfl⟩:=Lz (KC E);exact .inr q
  ·rintro(q |q)
   ·cases KG.mp q;exact .refl
   ·exact .step e q
theorem cn.split{up:Up}{t r:Int}{L:List eN}(h:cn up t L r):∀{X y:List Int} {x:Int},cA L r=X++x::y->∀c,a6 up x c↔c∈x::y:=by
 induction h with
 |nil e=>
  intro X y x E c;induction X using Lx with
  |nil=>obtain⟨rfl,rfl⟩:=Ly E;exact(cn.nil e).mem c|>.symm
  |cons a X=>exact absurd (((Pn ..).mp E).2.symm:X++x::y=[]) (by simp)
 |cons e h i=>
  intro X y x E c;induction X using Lx with
  |nil=>obtain⟨rfl,rfl⟩:=Ly E;exact(cn.cons e h).mem c|>.symm
  |cons a X=>exact i ((Pn ..).mp E).2 c
theorem tV(A:il up){X y:List Int}(p:cn up a L r)(q:sz up b L1 x)(n:∀c∈L1.map (·.1),c∉cA L r)(e:cA L r=X++x::y)(c:Int):
  c∈X++L1.map (·.1)↔j6 up a b c:=by
 have N:=p.yE A;have R:=p.mem c;have n:=n c;rw[e] at N R n;rw[KW] at R n;unfold j6;simp only[(q.qB c),(p.split e c),<-R,KW];constructor
 ·rintro(h |h)
  ·refine .inl ⟨.inl h,?_⟩
   rintro(g |g);·exact n g (.inl h)
   ·exact((L7.mp N).2.2) _ h _ g rfl
  ·exact .inr ⟨.inl h,n h⟩
 ·rintro(⟨h,g⟩ |⟨h,g⟩)
  ·exact KS h (λh=>.inl h) λh=>(g (.inr h)).elim
  ·exact KS h (λh=>.inr h) λh=>(g (.inr h)).elim
noncomputable def ix:List Int->Int->Option Nat
 |[],_=>KF
 |a::l,x=>if a=x then U 0 else(ix l x).map (·+1)
theorem rh:∀{l:List Int} {x:Int},ix l x=KF↔x∉l
 |[],x=>⟨λ_ m=>(nomatch m),λ_=>rfl⟩
 |a::l,x=>by
  unfold ix;by_cases c:a=x;·exact Z (if_pos c) (⟨λh=>(nomatch h),λh=>(h (Z c KJ)).elim⟩)
  ·simp only[if_neg c,Option.map_eq_none_iff,rh,KM,not_or]
   exact⟨λh=>⟨λe=>c e.symm,h⟩,λh=>h.2⟩
theorem qT:∀{l:List Int} {x:Int} {n:Nat},ix l x=U n->∃y,l=l.take n++x::y/\n<l.length
 |[],x,n,h=>nomatch h
 |a::l,x,n,h=>by
  unfold ix at h;by_cases c:a=x;·replace h:=(if_pos c)▸h;obtain rfl:=KC h;subst c;exact⟨l,rfl,MR _⟩
  ·replace h:=(if_neg c)▸h
   refine aD (Oo.mp h) λm H E=>?_;subst E;exact aD (qT H) λy e q=>⟨y,congrArg (a::·) e,PL q⟩
theorem rB:∀{l:List Int} {x:Int},x∉l->ix (l++[x])=aH (ix l) x (U l.length)
 |[],x,_=>by
  funext y;refine(?_ :(if x=y then U 0 else KF)=if y=x then _ else _);by_cases c:x=y;·refine Z (if_pos c) (Z (if_pos c.symm) ?_);rfl
  ·refine Z (if_neg c) (Z (if_neg λe=>c e.symm) ?_);rfl
 |a::l,x,h=>by
  simp only[KM,not_or] at h;funext y;refine((Z (rB h.2) ?_):(if a=y then U 0 else(ix (l++[x]) y).map (·+1))=aH (ix (a::l)) x (U (l.length+1)) y);by_cases c:y=x
  ·subst c
   (rw[aP,aP];refine Z (if_neg λe=>h.1 e.symm) ?_);rfl
  ·refine Z (aI _ _ c) (Z (aI _ _ c) ?_);rfl
end ai.M
namespace ai.L1
open ai.M (j6 jU a6 il cn sz aH)
def d6(up:M.Up)(a b:Int)(l:List Int):Prop:=
 l.Pairwise (·<·)/\∃X:Int->Prop,jU up X/\(∀c,j6 up a b c->X c)/\(∀y:Int->Prop,jU up y->(∀c,j6 up a b c->y c)->∀c,X c->y c)/\∀r,r∈l↔r≠0/\∃c p,X c/\up c=U (p,U r)
structure h3(up:M.Up):Prop where
 ac:il up
 nn:∀x p,up x=U p->aj x/\aj p.1
 ag:∀c p,up c=U (p,KF)->∃u v,M.arg c=U u/\M.arg p=U v/\∃m,a6 up u m/\a6 up v m
structure Xp(up:M.Up)(a b:Int)(S:Int->Bool)(W:List (Int×Int))(P:List Int):Prop where
 snd:∀y:Int->Prop,jU up y->(∀c,j6 up a b c->y c)->(∀c,S c=true->y c)/\(∀c∈P,y c)/\∀w∈W,∀c,j6 up w.1 w.2 c->y c
 top:∀c,j6 up a b c->S c=true\/c∈P\/∃w∈W,j6 up w.1 w.2 c
 cl:∀c p u v,S c=true->up c=U (p,KF)->M.arg c=U u->M.arg p=U v->∀d,j6 up u v d->S d=true\/d∈P\/∃w∈W,j6 up w.1 w.2 d
 mt:∀w∈W,aj w.1/\aj w.2/\∃m,a6 up w.1 m/\a6 up w.2 m
 pn:∀c∈P,∃p,up c=U p
section
variable {up:M.Up} {a b:Int} {S:Int->Bool} {W:List (Int×Int)} {P:List Int}
theorem Xp.start(n:aj a)(N:aj b)(m:∃m,a6 up a m/\a6 up b m):Xp up a b (λ_=>false) [(a,b)] []:=
 ⟨λy _ h=>⟨λ_ e=>(nomatch e),λ_ e=>(nomatch e),λw e=>by cases KG.mp e;exact h⟩,λc h=>.inr (.inr ⟨_,Lc _,h⟩),λ_ _ _ _ e=>(nomatch e),λw e=>by cases KG.mp e;exact⟨n,N,m⟩,λ_ e=>(nomatch e)⟩
theorem EI(A:il up)(b:a6 up u m)(V:a6 up v m)(s:j6 up u v d):∃p,up d=U p:=by
 have key:∀{u v},a6 up u m->a6 up v m->a6 up u d->¬a6 up v d->∃p,up d=U p:=by
  intro u v b V h n;refine KS (h.FI b) (λr=>?_) λr=>(n (V.trans r)).elim
  ·clear b;induction r with
   |refl=>exact(n V).elim
   |step e _=>exact⟨_,e⟩
 exact KS s (λR=>ay R λh n=>key b V h n) λa=>ay a λh n=>key V b h n
theorem Xp.pop{u v:Int}{l:List Int}(A:il up)(h:Xp up a b S (W++[(u,v)]) [])(H:∀c,c∈l↔j6 up u v c):Xp up a b S W l:=by
 have mv:∀d,(S d=true\/d∈([]:List Int)\/∃w∈W++[(u,v)],j6 up w.1 w.2 d)->S d=true\/d∈l\/∃w∈W,j6 up w.1 w.2 d:=by
  rintro d (h |h |⟨w,m,h⟩);·exact .inl h
  ·cases h
  ·rcases KW.mp m with m |m
   ·exact .inr (.inr ⟨w,m,h⟩)
   ·cases KG.mp m;exact .inr (.inl ((H d).mpr h))
 exact cH (h.mt (u,v) (K1 _ (Lc _))) λ_ _ r=>aD r λm R g=>⟨λy c t=>cH (h.snd y c t) λi _ f=>⟨i,λc m=>f _ (K1 _ (Lc _)) c ((H c).mp m),λw m=>f w (KZ _ m)⟩,λc s=>mv c (h.top c s),λc p u v s e E j d k=>mv d (h.cl c p u v s e E j d k),λw m=>h.mt w (KZ _ m),λc m=>EI A R g ((H c).mp m)⟩
theorem Xp.skip{c:Int}(h:Xp up a b S W (c::P))(s:S c=true):Xp up a b S W P:=by
 have mv:∀d,(S d=true\/d∈c::P\/∃w∈W,j6 up w.1 w.2 d)->S d=true\/d∈P\/∃w∈W,j6 up w.1 w.2 d:=by
  rintro d (h |h |h);·exact .inl h
  ·rcases KM.mp h with rfl |h
   ·exact .inl s
   ·exact .inr (.inl h)
  ·exact .inr (.inr h)
 exact⟨λy c t=>cH (h.snd y c t) λH f g=>⟨H,λc m=>f c (KP _ m),g⟩,λc s=>mv c (h.top c s),λc p u v s e E i d k=>mv d (h.cl c p u v s e E i d k),h.mt,λc m=>h.pn c (KP _ m)⟩
theorem iZ{S:Int->Bool}{c:Int}:aH S c true d=true↔d=c\/S d=true:=by
 by_cases e:d=c;·subst e;exact Z (M.aP _ _ _) ⟨λ_=>.inl rfl,λ_=>rfl⟩
 ·exact Z (M.aI _ _ e) ⟨.inr,λh=>h.resolve_left e⟩
theorem Xp.add{c:Int}{f:List (Int×Int)}(h:Xp up a b S W (c::P))(bv:∀w∈W,w∈f)(mt:∀w∈f,aj w.1/\aj w.2/\∃m,a6 up w.1 m/\a6 up w.2 m)
  (D:∀l:Int->Prop,jU up l->l c->∀w∈f,w∈W\/∀d,j6 up w.1 w.2 d->l d)(C:∀p u v,up c=U (p,none)->M.arg c=U u->M.arg p=U v->(u,v)∈f):Xp up a b (aH S c true) f P:=by
 have mv:∀d,(S d=true\/d∈c::P\/∃w∈W,j6 up w.1 w.2 d)->aH S c true d=true\/d∈P\/∃w∈f,j6 up w.1 w.2 d:=by
  rintro d (h |h |⟨w,m,h⟩);·exact .inl (iZ.mpr (.inr h))
  ·clear C D;refine KS (KM.mp h) (λrfl=>?_) λh=>?_
   ·exact .inl (iZ.mpr (.inl rfl))
   ·exact .inr (.inl h)
  ·exact .inr (.inr ⟨w,bv w m,h⟩)
 refine⟨λl k t=>?_,λc s=>mv c (h.top c s),λd p u v s e E g x k=>?_,mt,λc m=>h.pn c (KP _ m)⟩
 ·obtain⟨i,H,j⟩:=h.snd l k t
  have y:=H c KJ;refine⟨λd s=>?_,λc m=>H c (KP _ m),λw m=>KS (D l k y w m) (λm=>j w m) λm=>m⟩
  ·clear H mv C D h;rcases iZ.mp s with rfl |s
   ·exact y
   ·exact i d s
 ·clear D;rcases iZ.mp s with rfl |s
  ·exact .inr (.inr ⟨_,C p u v e E g,k⟩)
  ·exact mv x (h.cl d p u v s e E g x k)
theorem Xp.jj{c p r:Int}(h:Xp up a b S W (c::P))(e:up c=U (p,U r)):Xp up a b (aH S c true) W P:=
 h.add (λ_ m=>m) h.mt (λ_ _ _ _ m=>.inl m) λp u v E=>by rw[e] at E;exact(nomatch E)
theorem Xp.arg{c p u v:Int}(h:Xp up a b S W (c::P))(e:up c=U (p,none))(d:M.arg c=U u)(f:M.arg p=U v)(n:aj u)(N:aj v)(mt:∃m,a6 up u m/\a6 up v m):Xp up a b (aH S c true) (W++[(u,v)]) P:=by
 refine h.add (λ_ m=>KZ _ m) (λw m=>?_) (λj k y w m=>?_) λg i V E a1 a2=>?_
 ·rcases KW.mp m with m |m
  ·exact h.mt w m
  ·cases KG.mp m;exact⟨n,N,mt⟩
 ·rcases KW.mp m with m |m
  ·exact .inl m
  ·cases KG.mp m;exact .inr (k c p u v y e d f)
 ·replace E:=e▸E;(cases KC E)
  replace a1:=d▸a1;replace a2:=f▸a2;(replace a1:=KC a1;subst a1);obtain rfl:=KC a2;exact K1 _ (Lc _)
def Fd(up:M.Up)(S:Int->Bool)(r:Int):Prop:=r≠0/\∃c p,S c=true/\up c=U (p,U r)
theorem Xp.out{l:List Int}(h:Xp up a b S [] [])(s:l.Pairwise (·<·))(H:∀r,r∈l↔Fd up S r):d6 up a b l:=
 ⟨s,λc=>S c=true,λc p u v s e E f d k=>(h.cl c p u v s e E f d k).elim id λq=>q.elim (λq=>nomatch q) λ⟨_,m,_⟩=>(nomatch m),
  λc k=>(h.top c k).elim id λq=>q.elim (λq=>nomatch q) λ⟨_,m,_⟩=>(nomatch m),λy k t=>(h.snd y k t).1,H⟩
end
noncomputable def DX(S:Int->Bool):Nat:=(ar.filter λc=>!S c).length
theorem wm{p q:Int->Bool}{c:Int}(h:p c=true)(H:q c=false)(s:∀x,q x=true->p x=true):∀(l:List Int),c∈l->(l.filter q).length+1<=(l.filter p).length:=by
 have L:∀l:List Int,(l.filter q).length<=(l.filter p).length:=by
  intro l;induction l with
  |nil=>exact KX _
  |cons x l i=>
   refine Z MI (Z MI ?_);induction e:q x with
   |true=>exact Z (s x e) (Ld i)
   |false=>
    induction E:p x with
    |true=>exact Lp i
    |false=>exact i
 intro l;induction l with
 |nil=>intro m;cases m
 |cons x l i=>
  intro m;refine Z MI (Z MI ?_);rcases KM.mp m with rfl |m
  ·exact Z h (Z H (Ld (L l)))
  ·have:=i m
   induction e:q x with
   |true=>exact Z (s x e) (Ld this)
   |false=>
    induction E:p x with
    |true=>exact Lp this
    |false=>exact this
theorem Dc{S:Int->Bool}{c:Int}(h:S c=false)(n:aj c):DX (aH S c true)+1<=DX S:=by
 refine wm (c:=c) (by refine Z h ?_;rfl) (by refine Z (M.aP _ _ _) ?_;rfl) (λx e=>?_) ar (aR n);by_cases k:x=c;·clear e n;subst k;refine Z h ?_;rfl
 ·rwa[M.aI _ _ k] at e
theorem q7{L:Int->Int->Bool}(a x:Int):∀l:List Int,x∈j0 L a l↔x=a\/x∈l
 |[]=>by refine((iR KG ?_):x∈[a]↔_);exact⟨.inl,λh=>h.elim id λh=>nomatch h⟩
 |b::r=>by
  show x∈(if L a b=true then a::b::r else b::j0 L a r)↔_;split;·rw[KM]
  ·simp only[KM,q7 a x r,KM,or_left_comm]
theorem hB(x:Int):∀l:List Int,x∈cG l↔x∈l
 |[]=>S6
 |a::r=>by refine(?_ :x∈j0 _ a (cG r)↔_);simp only[q7,hB x r,KM]
set_option tactic.hygienic true in
theorem Ay{a:Int}:∀{l:List Int},l.Pairwise (·<·)->a∉l->(j0 (λa b=>decide (a<=b)) a l).Pairwise (·<·)
 |[],_,_=>List.pairwise_singleton _ _
 |b::r,h,n=>by
  refine(?_ :(if decide (a<=b)=true then a::b::r else b::j0 _ a r).Pairwise (·<·))
  simp only[KM,not_or] at n
  have h:=L9.mp h
  split
  ·rename_i c
   have c:a<b:=Int.lt_iff_le_and_ne.mpr ⟨of_decide_eq_true c,n.1⟩
   refine L9.mpr ⟨λx m=>?_,L9.mpr h⟩
   rcases KM.mp m with rfl |m
   ·exact c
   ·exact Int.lt_trans c (h.1 x m)
  ·rename_i c
   have c:b<a:=Int.not_le.mp λq=>c (decide_eq_true q)
   refine L9.mpr ⟨λx m=>?_,Ay h.2 n.2⟩
   rcases(q7 _ _ _).mp m with rfl |m
   ·exact c
   ·exact h.1 x m
theorem mN:∀{l:List Int},l.Nodup->(cG l).Pairwise (·<·)
 |[],_=>Qa
 |a::r,h=>by have h:=K9.mp h;exact Ay (mN h.2) λm=>h.1 ((hB a r).mp m)
open ai.M (eN Up rh qT rB tV dG eR cA ix)
variable {h:Hp} {A:AH} {M:Hs} {Q:PV} {n:Nat}
theorem nJ(W:h3 up)(P:cn up t L r):L.length<=9:=by
 have:=hv (u:=ar) (P.hL W.ac) λx m=>by refine aD (Lo.mp m) λe h E=>?_;clear m;subst E;exact aR (W.nn _ _ (P.at e h)).1
 rwa[KE] at this
noncomputable def cp(M:Hs)(l r:Int)(w:Option Int)(L:List eN)(top:Int):Hs:=(M.BG (aH (eR L (dG L M.up)) l (U (r,w)))).bR (M.ak++[.no l top])
theorem IE(R:AR h A)(H:ah A M)(W:h3 M.up){top:Int}(P:cn M.up l L top)(N:aj l)(lt:M.ak.length<aN)(q:∀h' c,AR h' c->ah c (cp M l r w L top)->Fr pL A c->Q .none h'):
  cw (n+2) "hang" [Me,.int l,.int r,sU w] Q h:=by
 refine ab z2 ⟨rfl,bX R H rfl tf (a1 rfl (turn R H W.ac W.nn P λj k g d F=>⟨aX rfl,(by decide:2<=aN),bj g d rfl (cD g d.up (aR N) λm b=>?_)⟩))⟩;have a:=d.wX (dq (e:=g0) (f:=(M.BG (eR L (dG L M.up))).up) (t:=l) (U (r,w)));exact bj b a rfl (ab (aq b a.ak) ⟨rfl,(by decide:3<=aN),aq b a.ak,bH b a.ak (Z (KE _) lt) λo i=>q _ _ i (a.c7 (l:=M.ak++[e2.no l top]) (db M.ak (e2.no l top))) (F.trans (.trans (.set rfl) (.set rfl)))⟩)
noncomputable def pE(k:Nat):Bool:=!(Lk k 15||(Lk k 16||Lk k 17))
theorem FH(k:Nat)(h:pX k=true):pE k=true:=by
 unfold pX at h;unfold pE;have c:∀j,LA 20 j=false->LA j 15=false->k≠j:=λj a b e=>by subst e;simp only[a,b] at h;exact aK h
 have e:∀j,k≠j->Lk k j=false:=λj e=>by
  induction q:Lk k j with
  |false=>rfl
  |true=>exact(e (L0 q)).elim
 simp only[e 15 (c 15 rfl rfl),e 16 (c 16 rfl rfl),e 17 (c 17 rfl rfl)];rfl
noncomputable def vN(x:Option Nat):Option V:=x.map λ(n:Nat)=>V.int n
noncomputable def d'(A:AH)(a b c0:Int)(x6:Option V):aV:=[U Me,U (.int a),U (.int b),U (.ref (A.R 15 0)),U (.ref (A.R 16 0)),U (.int c0),x6]
structure E1(A:AH)(M:Hs)(r:Int)(L:List eN)(h:Hp)(a:AH)(L1 l:List eN)(c0:Int):Prop where
 R:AR h a
 F:Fr pE A a
 o:a.o 15 0=U (.list (ae (cA L1 c0)))
 d:a.o 16 0=U (.dI ar λx=>vN (ix (cA L1 c0) x))
 P:cn M.up c0 l r
 e:L1++l=L
inductive Km(A:AH)(M:Hs)(a b r:Int)(L:List eN)(m:Nat)(d:aV)(h:Hp):Prop
 |mk (c:AH) (L1 l:List eN) (c0:Int) (e:d=d' c a b c0 KF) (I:E1 A M r L h c L1 l c0) (E:l.length=m)
structure E2(A:AH)(M:Hs)(b:Int)(N:List Int)(h:Hp)(a:AH)(L1 l:List eN)(c0 r:Int):Prop where
 R:AR h a
 F:Fr pE A a
 o:a.o 15 0=U (.list (ae N))
 d:a.o 16 0=U (.dI ar λx=>vN (ix N x))
 k:a.o 17 0=U (.list (ae (L1.map (·.1))))
 P:sz M.up b L1 c0
 P2:cn M.up c0 l r
 nn:∀c∈L1.map (·.1),c∉N
 rm:∃m,a6 M.up c0 m/\m∈N
 cQ:L1.length+l.length<=9
inductive Kf(A:AH)(M:Hs)(a b:Int)(N:List Int)(m:Nat)(d:aV)(h:Hp):Prop
 |mk (c:AH) (L1 l:List eN) (c0 r:Int) (e:d=d' c a b c0 (U (.ref (c.R 17 0)))) (I:E2 A M b N h c L1 l c0 r) (E:l.length=m)
theorem nY(L:List eN)(x p:Int)(w:Option Int):cA (L++[(x,p,w)]) p=cA L x++[p]:=by unfold cA;refine Z La ?_;rfl
theorem xW(L l:List eN)(r:Int):cA (L++l) r=L.map (·.1)++cA l r:=by unfold cA;simp only[La,K7]
theorem p'(L:List eN)(r:Int):(cA L r).length=L.length+1:=by unfold cA;(refine Z KH (Z (KE _) ?_));rfl
theorem B'{l:List Int}{x:Int}(h:x∉l):fd (λy=>vN (ix l y)) x (U (.int l.length))=λy=>vN (ix (l++[x]) y):=by
 refine Z (rB h) ?_;funext y;refine(?_ :(if y=x then _ else _)=vN (if y=x then _ else _));by_cases c:y=x;·refine Z (if_pos c) (Z (if_pos c) ?_);rfl
 ·exact Z (if_neg c) (Z (if_neg c) rfl)
theorem hW{C:Ctx}{c:V}{xs:List V}{i:Nat}(e:cb h c=U xs)(l:(i:Int)<=mc)(q:newList (xs.take i) Q h):(bB (cb h c) λxs=>bB (V.int i).fA λn=>0<=n/\n<=mc/\newList (xs.take n.toNat) Q h):=ab e ⟨Lw i,l,q⟩
theorem Ag{a b:List V}{c:cq}(e:cb h (.ref c)=U b)(l:a.length<=aN)(L:b.length<=aN)(q:newList (a++b) Q h):ub .add (.fl a) (.ref c) Q h:=
 (ab e ⟨l,L,q⟩:bB (cb h (.ref c)) λys=>a.length<=aN/\ys.length<=aN/\newList (a++ys) Q h)
theorem d1{b:aV}{i:Nat}{v:V}(e:(b[i]?).join=U (.int a))(q:dF [.int a] [v] Q h):Ex.wp G1 C (.dict [.var i] [.aE v]) b Q h:=by refine ab (a:=[V.int a]) ((Z e ?_):(b[i]?).join.bind _=_) q;rfl
theorem h7{a:Nat}(h:a<=100):a<=aN:=KB h (by decide)
set_option tactic.hygienic true in
theorem C2{P:PS}(H:ah A M)(W:h3 M.up)(d:cn M.up a L r)(I:E1 A M r L h A0 [] L a)(q:∀h' i,E1 A M r L h' i L [] r->M.up r=KF->St.bh G1 (a5 G1 T1 n) (bo.body.drop 2) (d' i a b r KF) P h'):
  St.bh G1 (a5 G1 T1 n) (bo.body.drop 1) (d' A0 a b a KF) P h:=by
 refine h9 (Km A M a b r L) (λm G J K I k=>?_) ⟨A0,[],L,a,rfl,I,rfl⟩
 obtain⟨f,L1,l,c0,u,⟨R,F,o,D,x,E⟩,y⟩:=I
 subst u
 have c:ah f M:=H.fr (F.bU FH)
 refine bj R c rfl (q8 R c.up ?_)
 have g:=nJ W d
 cases x with
 |cons e j=>
  rename_i p w l
  have N:=d.yE W.ac
  rw[<-E,xW] at N
  have z:p∉cA L1 c0:=λm=>by
   have mp:p∈cA l r:=(j.mem p).mpr .refl
   unfold cA at m
   refine KS (KW.mp m) (λm=>(L7.mp N).2.2 p m p (KP _ mp) rfl) λm=>?_
   ·simp only[KG.mp m] at mp
    exact(K9.mp (L7.mp N).2.1).1 mp
  simp only[<-E,KH,Lr] at g
  have s:(ae (cA L1 c0)).length<aN:=by rw[bb,p'];exact KU (Ld (KB (Lf _ _) g)) (by decide)
  refine bW (by refine Z e ?_;rfl) (b7 R c rfl c.up (v:=g0 (p,w)) (by refine Z e ?_;rfl) ⟨aX rfl,cE R o ⟨Lq s,cD R D (aR (W.nn _ _ e).2) λQ B=>ib (A:=f.set 16 0 _) B (k:=15) (t:=0) o s λS C=>?_⟩⟩)
  refine k _ (hR y (LU _)) _ _ ⟨(f.set 16 0 _).set 15 0 _,L1++[(c0,p,w)],l,p,rfl,⟨C,F.trans (.trans (.set rfl) (.set rfl)),?_,?_,j,Z (K7 _ _ _) E⟩,rfl⟩
  ·rw[nY,<-fB];rfl
  ·(rw[nY,<-B' z];refine hR (bb _) ?_);rfl
 |nil e=>
  rw[K8] at E
  clear g k I d
  subst E
  exact bI (by refine Z e ?_;rfl) (q _ _ ⟨R,F,o,D,.nil e,K8 _⟩ e)
theorem Ek{R:Int}{i:Nat}{Po:PS}(W:h3 M.up)(p:cn M.up a L1 r)(I:E2 A M b (cA L1 r) h d L j x R)(c:ix (cA L1 r) x=U i)
  (q:∀h' e l k,AR h' e->Fr pE A e->(∀c,c∈l↔j6 M.up a b c)->l.length<=18->Po (.ret (.fl (ae l))) k h'):St.bh G1 (a5 G1 T1 n) (bo.body.drop 4) (d' d a b x (U (.ref (d.R 17 0)))) Po h:=by
 refine aD (qT c) λy E g=>?_;have N:(cA L1 r).length<=10:=Z (p' _ _) (Ld (nJ W p));have lt:((ae (cA L1 r)).take i).length<=9:=by exact Z Mv (Z (bb _) (KB (P5 _ _) (RB (K6 g N))))
 have B:(ae (L.map (·.1))).length<=9:=by(refine Z (bb _) ?_;rw[KE]);exact KB (Lf _ _) I.cQ
 have t:(ae (cA L1 r)).take i++ae (L.map (·.1))=ae ((cA L1 r).take i++L.map (·.1)):=by rw[<-fB];unfold ae;rw[Nv]
 have f:((ae (cA L1 r)).take i++ae (L.map (·.1))).length<=18:=Z KH (O3 lt B);refine cK I.R I.d (v:=.int i) (by refine Z c ?_;rfl) (hW (C:=a5 G1 T1 n) (bT I.R I.o) (Mw (MF.mpr (KB (Lq g) N)) (by decide)) (bz (h7 (KB lt (by decide))) ?_));refine Ag (bT I.R I.k) (h7 (KB lt (by decide))) (h7 (KB B (by decide))) (bz (h7 (KB f (by decide))) ?_);rw[t] at f⊢;rw[bb] at f;exact q _ _ _ _ I.R I.F (tV W.ac p I.P I.nn E) f
set_option tactic.hygienic true in
theorem zv{Po:PS}(H:ah A M)(W:h3 M.up)(P:cn M.up a L1 r)(mt:∃m,a6 M.up a m/\a6 M.up b m)(I:E1 A M r L1 h f L1 [] r)
  (q:∀h' g l j,AR h' g->Fr pE A g->(∀c,c∈l↔j6 M.up a b c)->l.length<=18->Po (.ret (.fl (ae l))) j h'):St.bh G1 (a5 G1 T1 n) (bo.body.drop 2) (d' f a b r KF) Po h:=by
 refine g9 (cn.exists (W.ac b)) λu y B=>c6 17 0 (xs:=[]) I.R (K3 _) λz h4 D=>⟨(by decide:2<=aN),rfl,aX rfl,aX rfl,?_⟩
 have G:∃m,a6 M.up b m/\m∈cA L1 r:=by
  exact aD mt λm Q S=>⟨m,S,(P.mem m).mpr Q⟩
 refine h9 (Kf A M a b (cA L1 r)) (λm j h5 K J k=>?_) ⟨f.new 17 0 z _,[],u,b,y,rfl,⟨D,I.F.trans (.new rfl),I.o,I.d,rfl,.nil,B,λ_ m=>(nomatch m),G,Z Nx (Z (No _) (nJ W B))⟩,rfl⟩
 obtain⟨o,L,C,x,T,V,J,em⟩:=J
 subst V
 refine fO J.R J.d ?_
 induction c:ix (cA L1 r) x with
 |some i=>exact bI rfl (Ek W P J c q)
 |none=>
  have X:=rh.mp c
  obtain⟨R5,F,o5,d5,k5,P5,P6,nn,⟨m,R,N⟩,cQ⟩:=J
  cases P6 with
  |nil e=>
   cases R with
   |refl=>exact(X N).elim
   |step E _=>replace E:=e▸E;exact al E
  |cons E P7=>
   rename_i p w C
   have l5:(ae (L.map (·.1))).length<aN:=by
    exact Z (bb _) (Z (KE _) (KU (KB (Lf _ _) cQ) (by decide)))
   refine bW rfl (ib R5 k5 l5 λh6 s=>?_)
   have t:ah (o.set 17 0 (.list (ae (L.map (·.1))++[.int x]))) M:=H.fr ((F.trans (.set rfl)).bU FH)
   refine b7 s t rfl t.up (v:=g0 (p,w)) (by refine Z E ?_;rfl) ⟨aX rfl,?_⟩
   refine k _ (hR em (LU _)) _ _ ⟨o.set 17 0 _,L++[(x,p,w)],C,p,T,rfl,⟨s,F.trans (.set rfl),o5,d5,?_,.ls P5 E,P7,?_,?_,?_⟩,rfl⟩
   ·refine Z La (hR (fB _ _) ?_);rfl
   ·intro c m
    replace m:=La▸m
    refine KS (KW.mp m) (λm=>nn c m) λm=>?_
    cases KG.mp m;exact X
   ·cases R with
    |refl=>exact(X N).elim
    |step d r=>replace d:=E▸d;(cases KC d);exact⟨m,r,N⟩
   ·refine Z KH ?_;simp only[Lr] at cQ;exact KB (KQ (Z (SN _ _ _) (congrArg (L.length+·) (Nat.add_comm 1 _)))) cQ
theorem pb(R:AR h A)(H:ah A M)(W:h3 M.up)(N:aj a)(B:aj b)(mt:∃m,a6 M.up a m/\a6 M.up b m)
  (q:∀h' d l,AR h' d->Fr pE A d->(∀c,c∈l↔j6 M.up a b c)->l.length<=18->Q (.fl (ae l)) h'):cw (n+1) "edges_between" [Me,.int a,.int b] Q h:=by
 refine g9 (cn.exists (W.ac a)) λL r p=>ab j7 ⟨rfl,c6 15 0 (xs:=[.int a]) R (by refine(?_ :1<=aN);decide) λg u i=>?_⟩;refine d1 (a:=a) rfl (Ev 16 0 a (.int 0) ar i (aX rfl) (aR N) λj v k=>⟨(by decide:3<=aN),rfl,aX rfl,aX rfl,aX rfl,C2 (A0:=(A.new 15 0 g _).new 16 0 j _) H W p ⟨k,.trans (.new rfl) (.new rfl),rfl,((congrArg (λf=>U (AO.dI ar f)) (funext λy=>(?_ :(if y=a then U (V.int 0) else KF)=vN (if a=y then U 0 else KF)))):U (AO.dI ar _)=_),p,rfl⟩ λw x I _=>zv H W p mt I λz C l D o F s t=>⟨_,_,.refl,q _ _ l o F s t⟩⟩);by_cases c:y=a;·refine Z (if_pos c) (Z (if_pos c.symm) ?_);rfl
 ·refine Z (if_neg c) (Z (if_neg λe=>c e.symm) ?_);rfl
open PySem PyProof.Rows
noncomputable def ra(up:Up):List Int:=ar.filterMap λc=>(up c).bind (·.2)
theorem nb(up:Up):(ra up).length<=9:=MU _ _
theorem uW{up:Up}{c p r:Int}(n:aj c)(e:up c=U (p,U r)):r∈ra up:=Ny.mpr ⟨c,aR n,by refine Z e ?_;rfl⟩
noncomputable def sB(S:Int->Bool)(c:Int):Option V:=if S c=true then U (.bool true) else KF
theorem Aj(S:Int->Bool)(c:Int):fd (sB S) c (U (.bool true))=sB (aH S c true):=by
 funext x;refine(?_ :(if x=c then _ else _)=(if(if x=c then true else S x)=true then _ else _));by_cases e:x=c;·exact Z (if_pos e) (Z (if_pos e) (Z (if_pos rfl) rfl))
 ·refine Z (if_neg e) (Z (if_neg e) ?_);rfl
theorem wH(S:Int->Bool)(c:Int):(sB S c).isSome=S c:=by unfold sB;cases S c<;>rfl
noncomputable def FE(A:AH)(a b:Int)(x6 x7 x8 x9 x10:Option V):aV:=[U Me,U (.int a),U (.int b),U (.ref (A.R 18 0)),U (.ref (A.R 19 0)),U (.ref (A.R 20 0)),x6,x7,x8,x9,x10]
structure XS(A:AH)(M:Hs)(a b:Int)(h:Hp)(c:AH)(S:Int->Bool)(W:List (Int×Int))(P:List Int)(g:Int->Option V):Prop where
 R:AR h c
 F:Fr pX A c
 w:c.o 18 0=U (.list (W.map b'))
 s:c.o 19 0=U (.dI ar (sB S))
 f:c.o 20 0=U (.dI (ra M.up) g)
 g:∀r,(g r).isSome=true↔Fd M.up S r
 x:Xp M.up a b S W P
inductive XW(A:AH)(M:Hs)(a b:Int)(m:Nat)(d:aV)(h:Hp):Prop
 |mk (c:AH) (S:Int->Bool) (W:List (Int×Int)) (g:Int->Option V) (x6 x7 x8 x9 x10:Option V) (e:d=FE c a b x6 x7 x8 x9 x10) (X:XS A M a b h c S W [] g) (B:2*DX S+W.length<=m) (f:m<=19)
inductive XF(A:AH)(M:Hs)(a b:Int)(m:Nat)(x6 x7:Option V)(l:List V)(d:aV)(h:Hp):Prop
 |mk (c:AH) (S:Int->Bool) (W:List (Int×Int)) (P:List Int) (g:Int->Option V) (x8 x9 x10:Option V) (e:l=ae P) (E:d=FE c a b x6 x7 x8 x9 x10) (X:XS A M a b h c S W P g) (B:2*DX S+W.length<m)
noncomputable def JS:List St:=match cM.body.drop 2 with
 |.while _ (_::.for _ _ b::_)::_=>b
 |_=>[]
theorem EA{k:Nat}{g:Int->Option V}(R:AR h A)(e:A.o k t=U (.dI u g))(q:∀l:List Int,l.Nodup->(∀r,r∈l↔(g r).isSome=true)->l.length<=u.length->newList (ae l) Q h):qI .list [.ref (A.R k t)] Q h:=by exact ii (R.dI e) λes a E b d c=>(ab a (q _ E (λr=>by rw[<-fi,c]) (Z (KE _) (gk E b))):bB (h.o (A.R k t)) (Obj.toL Q h))
theorem HD(q:newList [V.aA [.int u,.int v]] Q h):qI .e6 [.aA (ae [u]),.aA (ae [v])] Q h:=q
theorem d0(q:dF [] [] Q h):ai.Ex.wp G1 C (.dict [] []) b Q h:=ab (a:=[]) rfl q
theorem Jr{a b c:Nat}(h:2*a+(b+1)<=c):2*a+b<c:=h
theorem Dh{a A b c:Nat}(h:2*a+b<c)(p:A+1<=a):2*A+(b+1)<c:=bM (lP _ _ _ _) 0x113111382723913113182a239231137a rfl h p
theorem r3{a A b c:Nat}(h:2*a+b<c)(p:A+1<=a):2*A+b<c:=bM (lP _ _ _ _) 0x113182723913113182a239231137a rfl h p
theorem zN{S:Int->Bool}{c:Int}:Fd up (aH S c true) r↔(r≠0/\∃p,up c=U (p,U r))\/Fd up S r:=by
 constructor
 ·rintro q;refine ay q λn R=>eH R λd p s e=>?_
  clear R q;rcases iZ.mp s with rfl |s
  ·exact .inl ⟨n,p,e⟩
  ·exact .inr ⟨n,d,p,s,e⟩
 ·rintro(⟨n,p,e⟩ |⟨n,d,p,s,e⟩)
  ·exact⟨n,c,p,iZ.mpr (.inl rfl),e⟩
  ·exact⟨n,d,p,iZ.mpr (.inr s),e⟩
theorem wW{up:Up}{S:Int->Bool}{c r:Int}(h:∀p,up c=U (p,U r)->r≠0->False):Fd up (aH S c true) r↔Fd up S r:=by exact iR zN ⟨λq=>q.elim (λ⟨n,p,e⟩=>(h p e n).elim) id,.inr⟩
theorem CJ{S:Int->Bool}{P:List Int}{g:Int->Option V}{c:Int}{m:Nat}{Po:PS}(H:ah A M)(W:h3 M.up)(X:XS A M a b h d S w (c::P) g)(B:2*DX S+w.length<m)(I:m<=19)
  (q:∀h' i S' x g' J y,XS A M a b h' i S' x P g'->2*DX S'+x.length<m->Po .next (FE i a b x6 x7 (U (.int c)) J y) h'):St.bh G1 (a5 G1 T1 (n+1)) JS (FE d a b x6 x7 (U (.int c)) x9 x10) Po h:=by
 refine fO X.R X.s (Z (wH _ _) ?_);induction z:S c with
 |true=>exact bI rfl (q _ _ _ _ _ _ _ ⟨X.R,X.F,X.w,X.s,X.f,X.g,X.x.skip z⟩ B)
 |false=>
  obtain⟨⟨p,D⟩,e⟩:=X.x.pn c KJ;obtain⟨N,G⟩:=W.nn _ _ e;have C:=Dc z N;refine bW rfl (cD X.R X.s (aR N) λL R=>?_);rw[Aj] at R;have F:Fr pX A (d.set 19 0 (.dI ar (sB (aH S c true)))):=X.F.trans (.set rfl);have f:=H.fr F;refine b7 R f rfl f.up (v:=g0 (p,D)) (congrArg (Nu g0) e) ⟨rfl,aX rfl,aX rfl,?_⟩;induction D with
  |none=>
   refine cR (W.ag c p e) λu v o s t=>ab (aq (A:=d.set 19 0 _) R X.w) ⟨rfl,bj R f rfl (o0 R f rfl gi (a1 rfl (ja R f N (Z (i1 o) (bj R f rfl (o0 R f rfl gi (a1 rfl (ja R f G (Z (i1 s) (ax (HD (bz (by refine(?_ :1<=aN);decide) (ax ⟨aq (A:=d.set 19 0 _) R X.w,iz (A:=d.set 19 0 _) R X.w (λe=>nomatch e) (ys:=[b' (u,v)]) rfl ?_ λK k=>?_⟩)))))))))))))⟩;·exact Z (KE _) (KB (Ld (KB (M3 _ _) (KB (Lq B) I))) (by decide))
   ·exact q _ ((d.set 19 0 _).set 18 0 _) (aH S c true) (w++[(u,v)]) g _ _ ⟨k,F.trans (.set rfl),by simp only[La];rfl,rfl,X.f,λr=>(X.g r).trans (wW λp E _=>by replace E:=e▸E;cases E).symm,X.x.arg e o s (aZ o).2 (aZ s).2 t⟩ (by rw[KH];exact Dh B C)
  |some r=>
   by_cases l:r=0;·exact oY (a:=r) (b:=0) l (q _ (d.set 19 0 _) (aH S c true) w g _ _ ⟨R,F,X.w,rfl,X.f,λj=>(X.g j).trans (wW λp E n=>by replace E:=e▸E;cases E;exact n l).symm,X.x.jj e⟩ (r3 B C))
   ·refine mx (a:=r) (b:=0) l (cD (A:=d.set 19 0 _) R X.f (uW N e) λK k=>q _ ((d.set 19 0 _).set 20 0 _) (aH S c true) w _ _ _ ⟨k,F.trans (.set rfl),X.w,rfl,rfl,λj=>?_,X.x.jj e⟩ (r3 B C))
    simp only[zN,<-X.g];show(if j=r then U (V.bool true) else g j).isSome=true↔_;by_cases c:j=r
    ·clear k G;subst c;rw[if_pos rfl]
     exact⟨λ_=>.inl ⟨l,p,e⟩,λ_=>rfl⟩
    ·rw[if_neg c]
     exact⟨.inr,λq=>q.elim (λ⟨_,_,E⟩=>by replace E:=e▸E;clear q;cases E;exact(c rfl).elim) id⟩
theorem EN{S:Int->Bool}{g:Int->Option V}{m:Nat}{Po:PS}(H:ah A M)(W:h3 M.up)(X:XS A M a b h i S w l g)(B:2*DX S+w.length<m)(p:m<=19)
  (q:∀h' d S' j g' r o y,XS A M a b h' d S' j [] g'->2*DX S'+j.length<m->Po .next (FE d a b x6 x7 r o y) h'):∃k,dp (λv f Q h=>Tg.wp G1 (a5 G1 T1 (n+1)) (.var 8) v f Q h) (λf Q h=>St.bh G1 (a5 G1 T1 (n+1)) JS f Q h) k (.bp (ae l)) (FE i a b x6 x7 x8 x9 x10) Po h:=by
 refine iV (XF A M a b m x6 x7) (λL N f s K I t=>?_) (λf s I=>?_) _ ⟨i,S,w,l,g,_,_,_,rfl,rfl,X,B⟩
 ·obtain⟨u,S,w,P,g,x8,x9,x10,e,E,x,B⟩:=I
  cases P with
  |nil=>cases e
  |cons c P=>
  obtain⟨rfl,rfl⟩:=Ly e;subst E;exact⟨aX rfl,CJ H W x B p λR z C D G o y F J=>t _ _ ⟨z,C,D,P,G,_,_,_,rfl,rfl,F,J⟩⟩
 ·obtain⟨u,S,w,P,g,x8,x9,x10,e,E,x,B⟩:=I
  subst E;cases P with
  |cons=>cases e
  |nil=>exact q _ _ _ _ _ _ _ _ x B
theorem hZ(R:AR h A)(H:ah A M)(W:h3 M.up)(N:aj a)(p:aj b)(rt:M.Y a=M.Y b)(mt:∃m,a6 M.up a m/\a6 M.up b m)
  (q:∀h' i l,AR h' i->ah i M->Fr pX A i->d6 M.up a b l->l.length<=9->Q (.fl (ae l)) h'):cw (n+2) "explain" [Me,.int a,.int b] Q h:=by
 refine ab r5 ⟨rfl,b7 R H rfl H.Y (rd N) (b7 R H rfl H.Y (rd p) (oY rt ⟨(by decide:2<=aN),c6 18 0 (xs:=[b' (a,b)]) R (by refine(?_ :1<=aN);decide) λC h1 D=>?_⟩))⟩;refine d0 (nq 19 0 ar D (aX rfl) λE h2 G=>d0 (nq 20 0 (ra M.up) G (KU (nb _) (by decide)) λJ ac P=>⟨(by decide:3<=aN),rfl,aX rfl,aX rfl,aX rfl,h9 (XW A M a b) (λm O h4 K I k=>?_) (m:=19) ⟨((A.new 18 0 C _).new 19 0 E _).new 20 0 J _,λ_=>false,[(a,b)],λ_=>KF,_,_,_,_,_,rfl,⟨P,.trans (.trans (.new rfl) (.new rfl)) (.new rfl),rfl,rfl,rfl,λr=>⟨λe=>(nomatch e),λ⟨_,_,_,e,_⟩=>(nomatch e)⟩,Xp.start N p mt⟩,((KX _:2*9+1<=19)),KX _⟩⟩));obtain⟨s,S,c,g,x6,x7,x8,x9,x10,T,X,b4,B⟩:=I;subst T;have lw:(c.map b').length<=19:=Z (KE _) (KB (M3 _ _) (KB b4 B));refine cE X.R X.w ⟨KB lw (by decide),aS ?_⟩;rcases QK c with e |⟨c,w,e⟩
 ·clear lw b4;subst e
  refine ab (a:=false) rfl (bI rfl (EA X.R X.f λl V l2 L=>?_));have L:=KB L (nb _);exact bz (Z (bb _) (KB L (by decide))) (ax (hD (KU L (by decide)) ⟨_,_,.refl,q _ _ _ X.R (H.fr X.F) X.F (X.x.out (mN V) λr=>(hB r l).trans ((l2 r).trans (X.g r))) (Z (iA _) L)⟩))
 ·replace e:=QM▸e
  subst e;obtain⟨u,v⟩:=w;have d:=X.w;replace d:=La▸d;replace b4:=KH▸b4;have j:(c.map b').length<aN:=by rw[KE] at lw⊢;replace lw:=KH▸lw;exact K6 lw (by decide)
  refine ab (a:=true) (congrArg U (decide_eq_true (by(refine Z (KE _) (Z KH ?_));exact Sc.mpr (MR _)):decide ((0:Int)<(((c++[(u,v)]).map b').length:Nat))=true)) (bW rfl (ab (aq X.R d) ⟨rfl,aq X.R d,pS X.R d j λh5 x=>(uP rfl (aX rfl) (aX rfl) (?_))⟩));have F:Fr pX A (s.set 18 0 (.list (c.map b'))):=X.F.trans (.set rfl);have y:ah (s.set 18 0 (.list (c.map b'))) M:=H.fr F;refine cH (X.x.mt (u,v) (K1 _ (Lc _))) λnu nv t=>bX x y rfl ks (a2 rfl rfl (pb x y W nu nv t λh6 A6 l R6 f hl ll=>ab (a:=.bp (ae l)) rfl ?_));have:=EN (n:=n) (x6:=U (.int u)) (x7:=U (.int v)) (x8:=x8) (x9:=x9) (x10:=x10) (Po:=Fl.seq K (Fl.seq (n0 (St.bh G1 (a5 G1 T1 (n+1)) (cM.body.drop 3)) (Fl.cY Q)) (Fl.cY Q))) H W ⟨R6,F.trans (f.bU FH),(f 18 0 rfl).1.trans rfl,(f 19 0 rfl).1.trans X.s,(f 20 0 rfl).1.trans X.f,X.g,X.x.pop W.ac hl⟩ b4 B λh' o S' W' g' y8 y9 aa X' z=>k _ z _ _ ⟨o,S',W',g',_,_,_,_,_,rfl,X',KX _,KB (Lq z) B⟩;unfold FE at this;simp only[cJ f (k:=18) rfl,cJ f (k:=19) rfl,cJ f (k:=20) rfl] at this;exact this
theorem kW(l:List Int)(r:Int):(eB l r).length<=l.length+1:=by
 unfold eB;split;·exact Lv _
 ·exact Z (iA _) (Z KH (KX _))
theorem w'(a b:List Int):(gv a b).length<=a.length+b.length:=by unfold gv;exact Z (iA _) (Z KH (LO (M6 _ _) _))
def n9(up:Up)(a b:Int):Prop:=∃m,a6 up a m/\a6 up b m
noncomputable def IU(s:Int)(x y z:Option V):aV:=[U Me,U (.int s),x,y,z]
theorem Jl(R:AR h A)(H:ah A M)(W:h3 M.up)(N:aj s)(f:∀p∈M.bl s,aj p.1/\aj p.2.1)(g:∀p∈M.bl s,M.Y p.1=M.Y p.2.1->n9 M.up p.1 p.2.1)
  (q:(∀p∈M.bl s,M.Y p.1≠M.Y p.2.1)->Q .none h)(i:∀h' a l,AR h' a->ah a M->Fr pX A a->(∃p∈M.bl s,M.Y p.1=M.Y p.2.1)->l.length<=10->Q (.fl (ae l)) h'):
  cw (n+3) "torn" [Me,.int s] Q h:=by
 refine ab y8 ⟨rfl,b7 R H rfl H.bl (j4 N) (ab (cU R (H.ec s N)) (qE (L:=M.bl s) (λd _=>∀p∈d,M.Y p.1≠M.Y p.2.1) (IU s) (R.io (H.ec s N)) (λd p D x y z K e hd k=>?_) (λx y z hd=>⟨_,_,.refl,q hd⟩) λ_ m=>(nomatch m)))⟩;have P:p∈M.bl s:=Z e (K1 _ KJ);have n:=f p P;refine⟨rfl,aX rfl,aX rfl,aX rfl,b7 R H rfl H.Y (rd n.1) (b7 R H rfl H.Y (rd n.2) ?_)⟩;by_cases c:M.Y p.1=M.Y p.2.1;·exact j9 c (bX R H rfl fE (bX R H rfl du (a2 rfl rfl (hZ R H W n.1 n.2 c (g p P c) λt u l r j F v b=>a1 rfl (iW (KU b (by decide)) ⟨_,_,.refl,i _ _ _ r j F ⟨p,P,c⟩ (KB (kW _ _) (Ld b))⟩)))))
 ·exact ju c (k _ _ _ λo m=>(KW.mp m).elim (hd o) λm=>KG.mp m▸c)
theorem pd(R:AR h A)(H:ah A M)(W:h3 M.up){c:Int×Int×Int}(N:aj a)(B:aj b)(f:aj c.1)(g:aj c.2.1)(i:M.Y a=M.Y c.1)(k:M.Y b=M.Y c.2.1)(m:n9 M.up a c.1)(o:n9 M.up b c.2.1)
  (q:∀h' d l L,AR h' d->ah d M->Fr pX A d->d6 M.up a c.1 l->d6 M.up b c.2.1 L->(eB (gv l L) c.2.2).length<=19->Q (.fl (ae (eB (gv l L) c.2.2))) h'):
  cw (n+3) "explain_cause" [Me,.int a,.int b,ij c] Q h:=by
 refine ab kd (Jm rfl rfl (aX rfl) (aX rfl) (aX rfl) (bX R H rfl fE (bX R H rfl vm (bX R H rfl du (a2 rfl rfl (hZ R H W N f i m λx y l r e F p s=>bX r e rfl du (a2 rfl rfl (hZ r e W B g k o λz C L t u v w S=>?_))))))));have j:=KB (w' l L) (O3 s S);exact ax (rb (KU (O3 s S) (by decide)) (a1 rfl (iW (KU j (by decide)) ⟨_,_,.refl,q _ _ _ _ t u (F.trans v) p w (KB (kW _ _) (Ld j))⟩)))
theorem md(R:AR h A)(H:ah A M)(W:h3 M.up){a b:Int}(s:M.aC t=U (a,b))(T:M.a7 t=U KF)(N:aj a)(B:aj b)(rt:M.Y a=M.Y b)(mt:n9 M.up a b)
  (q:∀h' c l,AR h' c->ah c M->Fr pX A c->d6 M.up a b l->l.length<=9->Q (.fl (ae l)) h'):cw (n+3) "explain_told" [Me,.int t] Q h:=by
 refine ab hH ⟨rfl,b7 R H rfl H.aC (v:=b' (a,b)) (by refine Z s ?_;rfl) ⟨rfl,aX rfl,aX rfl,b7 R H rfl H.a7 (v:=fb KF) (by refine Z T ?_;rfl) (uP rfl (aX rfl) (aX rfl) (?_))⟩⟩;refine bX R H rfl du (a2 rfl rfl (hZ R H W N B rt mt λe g l r d f o S=>⟨_,_,.refl,q _ _ _ r d f o S⟩))
theorem mz(R:AR h A)(H:ah A M)(W:h3 M.up){a b:Int}{c:Int×Int×Int}(s:M.aC t=U (a,b))(T:M.a7 t=U (U c))(N:aj a)(B:aj b)(e:aj c.1)(f:aj c.2.1)(r:M.Y a=M.Y c.1)(g:M.Y b=M.Y c.2.1)
  (m:n9 M.up a c.1)(i:n9 M.up b c.2.1)(q:∀h' d l L,AR h' d->ah d M->Fr pX A d->d6 M.up a c.1 l->d6 M.up b c.2.1 L->(eB (gv l L) c.2.2).length<=19->Q (.fl (ae (eB (gv l L) c.2.2))) h'):
  cw (n+4) "explain_told" [Me,.int t] Q h:=by
 refine ab hH ⟨rfl,b7 R H rfl H.aC (v:=b' (a,b)) (by refine Z s ?_;rfl) ⟨rfl,aX rfl,aX rfl,b7 R H rfl H.a7 (v:=fb (U c)) (by refine Z T ?_;rfl) (uP rfl (aX rfl) (aX rfl) (?_))⟩⟩;refine bX R H rfl kS (a3 rfl rfl rfl (pd R H W N B e f r g m i λu w l L j k F o p S=>⟨_,_,.refl,q _ _ _ _ j k F o p S⟩))
noncomputable def mB(A:AH)(k:Nat)(t:Int):AH:=⟨A.st,λK T=>if K=k/\T=t then KF else A.o K T,A.vr,A.nn⟩
theorem drop(R:AR h A)(k:Nat)(t:Int):AR (h.drop (A.R k t)) (mB A k t):=R3 (λK T a e=>by
 by_cases c:K=k/\T=t
 ·have e:(if K=k/\T=t then KF else A.o K T)=U a:=e
  rw[if_pos c] at e;exact al e
 ·have e:(if K=k/\T=t then KF else A.o K T)=U a:=e
  rw[if_neg c] at e;refine ay (R.1 K T a e) λb E=>?_;obtain⟨x,d,f⟩:=b;exact⟨⟨x,(if_neg (zc c)).trans d,f⟩,E⟩) R.2
theorem Fr.mB{p:Nat->Bool}{k:Nat}{t:Int}(e:p k=false):Fr p A (mB A k t):=λK T E=>by
 have:¬(K=k/\T=t):=λq=>by replace E:=e▸q.1▸E;exact aK E
 exact⟨if_neg this,rfl,rfl⟩
theorem Dj(k:Nat)(h:pL k=true):IZ k=true:=by
 unfold pL at h;unfold IZ;have c:∀j,LA 30 j=false->(LA 24 j&&LA j 30)=false->Lk k j=false:=λj a b=>by
  induction q:Lk k j with
  |false=>rfl
  |true=>replace h:=b▸a▸(L0 q)▸h;exact aK h
 refine Z (c 11 rfl rfl) (Z (c 30 rfl rfl) ?_);rfl
noncomputable def tr:Option (Int×Int×Int)->Int
 |none=>1
 |some _=> -1
noncomputable def vk(p:Int×Int):V:=.aA [.int p.1,.int p.2]
def BC(M:Hs)(l:List (Int×Int)):Prop:=(l.map (·.1)).Nodup/\∀e∈l,e.1∈M.a4/\∃c,M.a7 e.1=U c/\e.2=tr c
noncomputable def yq(A:AH)(x:Option V):aV:=[U Me,U (.ref (A.R 16 0)),U (.ref (A.R 17 0)),x]
inductive JI(A:AH)(M:Hs)(l:List V)(b:aV)(h:Hp):Prop
 |mk (a:AH) (S:Int->Bool) (out:List (Int×Int)) (x:Option V) (d':b=yq a x) (R:AR h a) (F:Fr pX A a) (o:a.o 16 0=U (.list (out.map vk))) (d:a.o 17 0=U (.dI fC (sB S))) (s:∀t,S t=true↔t∈out.map (·.1)) (out:BC M out)
theorem BC.add{l:List (Int×Int)}(o:BC M l){t:Int}{c:Option (Int×Int×Int)}(mt:t∈M.a4)(E:M.a7 t=U c)(n:t∉l.map (·.1)):BC M (l++[(t,tr c)]):=by exact⟨Z La (L7.mpr ⟨o.1,K9.mpr ⟨MH,Mk⟩,λa A b B e=>n ((KG.mp B:b=t)▸(e▸A:b∈_))⟩),λe m=>(KW.mp m).elim (o.2 e) λm=>KG.mp m▸⟨mt,c,E,rfl⟩⟩
theorem BC.cQ{l:List (Int×Int)}(o:BC M l)(h:∀t∈M.a4,t∈fC):l.length<=3:=
 KB (KQ (KE _).symm) (hv (u:=fC) o.1 λx m=>(Lo.mp m).elim λe w=>hR w.2 (h _ (o.2 e w.1).1))
theorem BV{S:Int->Bool}{out:List (Int×Int)}{t:Int}{v:Int}(s:∀t,S t=true↔t∈out.map (·.1))(y:Int):aH S t true y=true↔y∈(out++[(t,v)]).map (·.1):=by simp only[iZ,s,La,KW];exact⟨λh=>h.elim (λe=>.inr (Z e (Lc _))) .inl,λh=>h.elim .inr λm=>.inl (KG.mp m)⟩
theorem BX{P:PS}(R:AR h A)(H:ah A M){S:Int->Bool}{out:List (Int×Int)}{t:Int}{c:Option (Int×Int×Int)}(T:t∈fC)(e:M.a7 t=U c)(l:out.length<=3)(o:A.o 16 0=U (.list (out.map vk)))(d:A.o 17 0=U (.dI fC (sB S)))
  (q:∀h' a,AR h' a->Fr pX A a->a.o 16 0=U (.list ((out++[(t,tr c)]).map vk))->a.o 17 0=U (.dI fC (sB (aH S t true)))->P .next (yq a (U (.int t))) h'):
  St.bh G1 (a5 G1 T1 n) [.a8 (.sub (.var 2) (.var 3)) (.aE (.bool true)),.expr (.az (.var 1) "append" [.aA [.var 3,.sub (.sub (.ao (.var 0) "told") (.var 3)) (.aE (.int 0))]])] (yq A (U (.int t))) P h:=by
 refine cD R d T λg r=>?_;rw[Aj] at r;have f:Fr pX A (A.set 17 0 (.dI fC (sB (aH S t true)))):=.set rfl;have b:=H.fr f;refine ab (aq (A:=A.set 17 0 _) r o) ⟨rfl,b7 r b rfl b.a7 (v:=fb c) (by refine Z e ?_;rfl) ?_⟩;have s:kY g (fb c) (.int 0)=U (.int (tr c)):=by clear q e;induction c<;>rfl
 exact ab s ⟨(by decide:2<=aN),aq (A:=A.set 17 0 _) r o,bH (A:=A.set 17 0 _) r o (Z (KE _) (KU l (by decide))) λj i=>q _ ((A.set 17 0 _).set 16 0 _) i (f.trans (.set rfl)) (by refine Z La ?_;rfl) rfl⟩
theorem B3(R:AR h A)(H:ah A M)(T:∀t∈M.a4,t∈fC)(q:∀h' g l,AR h' g->ah g (M.eJ [])->Fr pL A g->BC M l->Q (.fl (l.map vk)) h'):cw (n+1) "implied" [Me] Q h:=by
 refine ab tQ ⟨rfl,c6 16 0 (xs:=[]) R (K3 _) λB h1 C=>d0 (nq 17 0 fC C (aX rfl) λD h2 i=>⟨(by decide:2<=aN),rfl,aX rfl,aX rfl,?_⟩)⟩;have p:Fr pX A ((A.new 16 0 B (.list [])).new 17 0 D (.dI fC λ_=>KF)):=.trans (.new rfl) (.new rfl);have u:=H.fr p;refine bj i u rfl (ab (cU i u.a4) (i0 (xs:=ae M.a4) (JI A M) ?_ ?_ ?_ ⟨_,λ_=>false,[],_,rfl,i,p,rfl,rfl,λt=>⟨λe=>(nomatch e),λe=>(nomatch e)⟩,Mk,λ_ e=>(nomatch e)⟩))
 ·intro l w h' J
  obtain⟨a,S,out,x,d',r,f,b,d,s,o⟩:=J;exact(cJ f rfl:a.R 11 0=A.R 11 0)▸r.io (H.fr f).a4
 ·intro v l w G K V J k
  obtain⟨a,S,out,x,d',r,f,b,d,s,o⟩:=J;refine aD (Lo.mp V) λt mt E=>?_;clear V;subst E;subst d';have j:=H.fr f;refine⟨aX rfl,bj r j rfl (q8 r j.a7 ?_)⟩;induction y:M.a7 t with
  |none=>exact bI rfl (k _ _ ⟨a,S,out,_,rfl,r,f,b,d,s,o⟩)
  |some c=>
   refine bW rfl (fO r d (Z (wH _ _) ?_));induction I:S t with
   |true=>exact bI rfl (k _ _ ⟨a,S,out,_,rfl,r,f,b,d,s,o⟩)
   |false=>exact bW rfl (BX r j (T t mt) y (o.cQ T) b d λh5 L N P W X=>k _ _ ⟨L,aH S t true,_,_,rfl,N,f.trans P,W,X,BV s,o.add mt y λm=>LW (I.symm.trans ((s t).mpr m))⟩)
 ·intro w G J
  obtain⟨a,S,out,x,d',r,f,b,d,s,o⟩:=J;subst d';exact wI (l:=[]) r (H.fr f) (K3 _) λh4 A4 z H4 F=>Z (show yq a x=yq A4 x by unfold yq;exact Z (cJ F rfl) (Z (cJ F rfl) rfl)) (⟨_,_,.dZ (z.io ((F 16 0 rfl).1.trans b)),q _ _ _ (drop z 16 0) (H4.fr (.mB rfl)) (((f.bU pQ).trans (F.bU Dj)).trans (.mB rfl)) o⟩)
theorem qU(h:pL k=true)(a:pL j=false):Lk k j=false:=by
 induction q:Lk k j with
 |false=>rfl
 |true=>replace h:=a▸(L0 q)▸h;exact aK h
noncomputable def p1(k:Nat):Bool:=!(Lk k 1)
theorem Iv(k:Nat)(h:pL k=true):p1 k=true:=by unfold p1;refine Z (qU h (j:=1) rfl) ?_;rfl
noncomputable def ey(l:List Int)(v:Int)(f:Int->Int):Int->Int:=l.foldl (λf t=>aH f t v) f
theorem sJ(l:List Int)(t v:Int)(f:Int->Int):ey (l++[t]) v f=aH (ey l v f) t v:=M7
theorem jc(v:Int)(x:Int):∀(l:List Int) (f:Int->Int),ey l v f x=if x∈l then v else f x:=by
 intro l;induction l with
 |nil=>intro f;rfl
 |cons a l i=>
  intro f;show ey l v (aH f a v) x=_;rw[i];by_cases c:x∈l;·(refine Z (if_pos c) ?_;rw[if_pos (KP _ c)])
  ·rw[if_neg c]
   by_cases e:x=a;·subst e;rw[M.aP,if_pos KJ]
   ·exact Z (M.aI _ _ e) (Z (if_neg λm=>(KM.mp m).elim e c) rfl)
theorem d5{a:aV}{i j:Nat}(h:j≠i):(a.set i y)[j]? =a[j]? :=OT λe=>h e.symm
theorem g7{a:aV}{i:Nat}(h:i<a.length):(a.set i y)[i]? =U y:=Z (OA h) rfl
inductive IL(f:aV)(i:Nat)(L:List Int)(B:List Int->AH->Prop)(l:List V)(a:aV)(h:Hp):Prop
 |mk (A:AH) (c d:List Int) (y:Option V) (E:l=ae d) (d':a=f.set i y) (e:L=c++d) (R:AR h A) (b:B c A)
variable {C:Ctx} {J:aV}
section
variable {i:Nat} {L:List Int} {bd:List St} {P:PS} {B:List Int->AH->Prop}
theorem IL.go(H:i<J.length)(step:∀A t c f h' (K:aV->Hp->Prop),L=A++t::c->B A f->AR h' f->(∀h d,AR h d->B (A++[t]) d->K (J.set i (U (.int t))) h)->St.bh G1 C bd (J.set i (U (.int t))) (Fl.seq K P) h')
  (v:V)(l:List V)(a:aV)(h':Hp)(K:aV->Hp->Prop)(I:IL J i L B (v::l) a h')(k:∀a h',IL J i L B l a h'->K a h'):Tg.wp G1 C (.var i) v a (n0 (St.bh G1 C bd) (Fl.seq K P)) h':=by
 obtain⟨f,A,c,y,E,d',e,r,b⟩:=I;subst d';cases c with
 |nil=>exact(nomatch E)
 |cons t c=>obtain⟨rfl,rfl⟩:=Ly E;exact⟨Z (Mh ..) H,Z (SO _) (step A t c f h' K e b r λm g R j=>k _ _ ⟨g,A++[t],c,_,rfl,rfl,e.trans (RG A t c),R,j⟩)⟩
theorem IL.cY(cY:∀A h' y,B L A->AR h' A->P .next (J.set i y) h')(a:aV)(h':Hp)(I:IL J i L B [] a h'):P .next a h':=by
 obtain⟨A,l,c,y,E,d',e,r,b⟩:=I;subst d';induction c using Lx with
 |cons=>exact(nomatch E)
 |nil=>exact cY A h' y (e.trans (K8 l)▸b) r
theorem i3(B:List Int->AH->Prop)(I:i<J.length)(step:∀l t d a h' (K:aV->Hp->Prop),L=l++t::d->B l a->AR h' a->(∀H c,AR H c->B (l++[t]) c->K (J.set i (U (.int t))) H)->St.bh G1 C bd (J.set i (U (.int t))) (Fl.seq K P) h')
  (cY:∀a h' y,B L a->AR h' a->P .next (J.set i y) h')(R:AR h A)(b:B [] A):∃n,dp (λv J Q h=>Tg.wp G1 C (.var i) v J Q h) (λJ Q h=>St.bh G1 C bd J Q h) n (.bp (ae L)) J P h:=
 iV (IL J i L B) (IL.go I step) (IL.cY cY) _ ⟨A,[],L,J[i],rfl,(QJ I).symm,rfl,R,b⟩
theorem x'{r:cq}(B:List Int->AH->Prop)(e:i<J.length)(same:∀c a h',B c a->AR h' a->h'.o r=U (.list (ae L)))(step:∀c t f a h' (K:aV->Hp->Prop),L=c++t::f->B c a->AR h' a->(∀H d,AR H d->B (c++[t]) d->K (J.set i (U (.int t))) H)->St.bh G1 C bd (J.set i (U (.int t))) (Fl.seq K P) h')
  (cY:∀a h' y,B L a->AR h' a->P .next (J.set i y) h')(R:AR h A)(b:B [] A):∃n,dp (λv J Q h=>Tg.wp G1 C (.var i) v J Q h) (λJ Q h=>St.bh G1 C bd J Q h) n (.cZ r 0) J P h:=
 i0 (IL J i L B) (λl g h' I=>match I with |⟨a,c,_,_,_,_,_,j,b⟩=>same c a h' b j) (λv l J h' K _=>IL.go e step v l J h' K) (IL.cY cY) ⟨A,[],L,J[i],rfl,(QJ e).symm,rfl,R,b⟩
end
theorem qL{i k:Nat}{P:PS}(I:i<J.length)(d:0≠i)(f:k≠i)(E:(J[0]?).join=U Me)(g:(J[k]?).join=U (.int x))(R:AR h A)(H:ah A M)(N:aj s)(nm:∀t∈M.mem s,aj t)
  (q:∀h' c y,AR h' c->ah c (M.kB (ey (M.mem s) x M.Y))->Fr pL A c->P .next (J.set i y) h'):
  ∃n,dp (λv J Q h=>Tg.wp G1 C (.var i) v J Q h) (λJ Q h=>St.bh G1 C [.a8 (.sub (.ao (.var 0) "root") (.var i)) (.var k)] J Q h) n (.cZ (A.R 21 s) 0) J P h:=by
 refine x' (λl c=>ah c (M.kB (ey l x M.Y))/\Fr p1 A c) I (λl c h' b r=>hR (cJ b.2 rfl:c.R 21 s=A.R 21 s) (r.io (b.1.ft s N))) (λl t L c h' K e b r k=>ab (a:=.int x) (by rw[d5 f];exact g) (ab (a:=Me) (Z (d5 d) E) ?_)) (λc h' y b r=>q _ _ y r b.1 (b.2.bU Iv)) R ⟨H,.refl⟩;refine bj r b.1 rfl (ab (a:=.int t) (by refine Z (g7 I) ?_;rfl) (cD r b.1.Y (aR (nm t (Z e (K1 _ KJ)))) λm j=>k _ _ j ⟨?_,b.2.trans (.set rfl)⟩));simp only[sJ];exact b.1.C6 (kK (nm t (Z e (K1 _ KJ))))
theorem lE{v:V}{P:V->Prop}(R:AR h A)(S:A.o 30 0=U (.dS fs))(s:A.st 30 0=sN)(e:bc fs f=U v)(q:P v):bB (ai.bC h ⟨30,0,sN⟩) (r7 f P):=by have:=yV R S e q;rwa[show A.R 30 0=⟨30,0,sN⟩ from congrArg (cq.mk 30 0) s] at this
theorem kG{m:Nat}(n:aj t):fd (jC A k) t (U (.ref ⟨k,t,m⟩))=jC (A.new k t m a) k:=by
 funext x;refine(?_ :(if x=t then _ else(if aj x then U (V.ref ⟨k,x,A.st k x⟩) else KF))=(if aj x then U (V.ref ⟨k,x,if k=k/\x=t then m else A.st k x⟩) else KF));by_cases c:x=t;·subst c;exact Z (if_pos rfl) (Z (if_pos n) (Z (if_pos ⟨rfl,rfl⟩) rfl))
 ·exact Z (if_neg c) (Z ((if_neg λe=>c e.2:(if k=k/\x=t then m else A.st k x)=A.st k x)) rfl)
theorem fY{a:Nat}(h:a<=aN):(a:Int)<=mc:=Mw (MF.mpr h) (by decide)
theorem tk{b:Type}{l:List b}{a:Nat}(h:a<=aN):(l.take a).length<=aN:=Z Mv (KB (P5 _ _) h)
theorem mQ(l:List Int)(a:Nat):(ae l).take a=ae (l.take a):=by unfold ae;exact Z Nv rfl
theorem E8{b:Type}(f:b->V)(l:List b)(a:Nat):(l.map f).take a=(l.take a).map f:=Z Nv rfl
theorem Fk{C:Ctx}{a:Nat}{P:Hp->Prop}(R:AR h A)(H:ah A M)(N:aj l)(b:a<=aN)(q:∀h' d,AR h' d->ah d (M.oe l ((M.mem l).take a))->Fr pL A d->P h'):
  bB (kY h (.ref (A.R 2 0)) (.int l)) λv=>bB (cb h v) λxs=>bB (V.int a).fA λn=>0<=n/\n<=mc/\newList (xs.take n.toNat) (λv h=>bB (ai.bC h ⟨30,0,sN⟩) λfs=>bB (bc fs "members") λc=>gA h c (.int l) v P) h:=by
 exact cK R H.mem (j4 N) (hW (C:=C) (bT R (H.ft l N)) (fY b) (c6 21 l R (tk b) λm f r=>lE r (fs:=ai.L1.bC A M) H.self H.sn rfl (cD (A:=A.new 21 l m _) r (k:=2) (t:=0) H.mem (aR N) λg e=>q _ _ e (H.Ef (mQ _ _) (kG N)) (.trans (.new rfl) (.set rfl)))))
theorem BJ{C:Ctx}{a:Nat}{P:Hp->Prop}(R:AR h A)(H:ah A M)(N:aj l)(b:a<=aN)(q:∀h' d,AR h' d->ah d (M.gX l ((M.aM l).take a))->Fr pL A d->P h'):
  bB (kY h (.ref (A.R 3 0)) (.int l)) λv=>bB (cb h v) λxs=>bB (V.int a).fA λn=>0<=n/\n<=mc/\newList (xs.take n.toNat) (λv h=>bB (ai.bC h ⟨30,0,sN⟩) λfs=>bB (bc fs "uses") λc=>gA h c (.int l) v P) h:=by
 exact cK R H.aM (j4 N) (hW (C:=C) (bT R (H.c8 l N)) (fY b) (c6 22 l R (tk b) λm f r=>lE r (fs:=ai.L1.bC A M) H.self H.sn rfl (cD (A:=A.new 22 l m _) r (k:=3) (t:=0) H.aM (aR N) λg e=>q _ _ e (H.Db (mQ _ _) (kG N)) (.trans (.new rfl) (.set rfl)))))
theorem Ep{C:Ctx}{a:Nat}{P:Hp->Prop}(R:AR h A)(H:ah A M)(N:aj l)(b:a<=aN)(q:∀h' d,AR h' d->ah d (M.hk l ((M.bl l).take a))->Fr pL A d->P h'):
  bB (kY h (.ref (A.R 5 0)) (.int l)) λv=>bB (cb h v) λxs=>bB (V.int a).fA λn=>0<=n/\n<=mc/\newList (xs.take n.toNat) (λv h=>bB (ai.bC h ⟨30,0,sN⟩) λfs=>bB (bc fs "apart") λc=>gA h c (.int l) v P) h:=by
 exact cK R H.bl (j4 N) (hW (C:=C) (bT R (H.ec l N)) (fY b) (c6 23 l R (tk b) λm f r=>lE r (fs:=ai.L1.bC A M) H.self H.sn rfl (cD (A:=A.new 23 l m _) r (k:=5) (t:=0) H.bl (aR N) λg e=>q _ _ e (H.Fy (E8 ij _ _) (kG N)) (.trans (.new rfl) (.set rfl)))))
theorem Fp{C:Ctx}{a:Nat}{P:Hp->Prop}(R:AR h A)(H:ah A M)(N:aj l)(b:a<=aN)(q:∀h' d,AR h' d->ah d (M.mq l ((M.bK l).take a))->Fr pL A d->P h'):
  bB (kY h (.ref (A.R 6 0)) (.int l)) λv=>bB (cb h v) λxs=>bB (V.int a).fA λn=>0<=n/\n<=mc/\newList (xs.take n.toNat) (λv h=>bB (ai.bC h ⟨30,0,sN⟩) λfs=>bB (bc fs "watchers") λc=>gA h c (.int l) v P) h:=by
 exact cK R H.bK (j4 N) (hW (C:=C) (bT R (H.fT l N)) (fY b) (c6 24 l R (tk b) λm f r=>lE r (fs:=ai.L1.bC A M) H.self H.sn rfl (cD (A:=A.new 24 l m _) r (k:=6) (t:=0) H.bK (aR N) λg e=>q _ _ e (H.FA (mQ _ _) (kG N)) (.trans (.new rfl) (.set rfl)))))
noncomputable def BA(M:Hs)(s l:Int)(a b c d:Nat)(v:Int):Hs:=(((((M.oe l ((M.mem l).take a)).gX l ((M.aM l).take b)).hk l ((M.bl l).take c)).mq l ((M.bK l).take d)).ua (aH M.val l v)).kB (ey (M.mem s) s M.Y)
theorem I3(R:AR h A)(H:ah A M){a b c d:Nat}(S:aj s)(N:aj l)(z:s≠l)(nm:∀t∈M.mem s,aj t)(B:a<=aN)(D:b<=aN)(F:c<=aN)(b4:d<=aN)
  (q:∀h' g,AR h' g->ah g (BA M s l a b c d v)->Fr pL A g->Q .none h'):cw (n+1) "part" [Me,.int s,.int l,.aA [.int a,.int b,.int c,.int d],.int v] Q h:=by
 refine ab zV ⟨rfl,bj R H rfl (Fk (C:=a5 G1 T1 n) R H N B λW X j k G=>bj j k rfl (BJ (C:=a5 G1 T1 n) j k N D λZ A2 o p I=>bj o p rfl (Ep (C:=a5 G1 T1 n) o p N F λh3 A3 u w J=>bj u w rfl (Fp (C:=a5 G1 T1 n) u w N b4 λh4 A4 x i K=>bj x i rfl (cD x i.val (aR N) λh5 r=>?_)))))⟩;have e:=i.Bs (f:=aH M.val l v) (kK (f:=M.val) (v:=v) N);have E:aH M.mem l ((M.mem l).take a) s=M.mem s:=ai.M.aI _ _ z;refine b7 r e rfl e.mem (j4 S) (ab (cU r (e.ft s S)) (qL (aX rfl) (by decide) (by decide) rfl rfl r e S (λt m=>nm t (hR E m)) λh6 L y P T V=>q _ _ P ?_ ((((G.trans I).trans J).trans K).trans (.trans (.set rfl) V))));have:ah L ((((((M.oe l ((M.mem l).take a)).gX l ((M.aM l).take b)).hk l ((M.bl l).take c)).mq l ((M.bK l).take d)).ua (aH M.val l v)).kB (ey (aH M.mem l ((M.mem l).take a) s) s M.Y)):=T;rwa[E] at this
inductive fw:e2->Hs->Hs->Prop
 |g6 {M:Hs} {m t}:M.bu m=U t->fw (.g6 m) M (M.hu (aH M.bu m KF))
 |jL {M:Hs} {m t}:m∈iE->fw (.jL m t) M (M.hu (aH M.bu m (U t)))
 |join {M:Hs} {s l a b c d v}:aj s->aj l->s≠l->(∀t∈M.mem s,aj t)->a<=aN->b<=aN->c<=aN->d<=aN->fw (.join s l a b c d v) M (BA M s l a b c d v)
 |no {M:Hs} {l top p L r}:M.up l=U p->il (aH M.up l KF)->(∀x p,aH M.up l KF x=U p->aj x/\aj p.1)->cn (aH M.up l KF) top L r->fw (.no l top) M (M.BG (eR L (dG L (aH M.up l KF))))
 |apart {M:Hs} {a b xs x ys y}:aj a->aj b->M.bl a=xs++[x]->(M.hk a xs).bl b=ys++[y]->xs.length<aN->ys.length<aN->fw (.apart a b) M ((M.hk a xs).hk b ys)
 |a7 {M:Hs} {t c}:M.a7 t=U c->fw (.a7 t) M (M.qe (aH M.a7 t KF))
theorem dx{i:Nat}{t:String}{P:PS}(e:(J[i]?).join=U (.str s))(n:(s==t)=false)(q:St.bh G1 C b J P h):St.wp G1 C (.cF (.bV .eq (.var i) (.aE (.str t))) a b) J P h:=by exact ab e (aS ((Z n (q)):bB (U (s==t)) λt=>if t=true then _ else _))
theorem m0{i:Nat}{t:String}{P:PS}(e:(J[i]?).join=U (.str s))(n:(s==t)=true)(q:St.bh G1 C a J P h):St.wp G1 C (.cF (.bV .eq (.var i) (.aE (.str t))) a b) J P h:=by exact ab e (aS ((Z n q):bB (U (s==t)) λt=>if t=true then _ else _))
theorem sb{i:Nat}{v:V}(e:(J[i]?).join=U (.aA vs))(f:jt vs k=U v)(q:Q v h):Ex.wp G1 C (.sub (.var i) (.aE (.int k))) J Q h:=ab e (aS (ab f q))
theorem IF(R:AR h A)(H:ah A M){x y:V}(aa:fw e M w)(q:∀h' s,AR h' s->ah s w->Fr pL A s->Q .none h'):cw (n+2) "undo" [Me,e.v,x,y] Q h:=by
 refine ab As ⟨rfl,?_⟩;cases aa with
 |g6 e=>refine⟨aX rfl,cB (dx rfl rfl (m0 rfl rfl (bj R H rfl (y7 R H.bu (dA _) (v:=.int _) (by refine((Z e ?_):(M.bu _).map V.int=_);rfl) λk d=>?_))))⟩;exact q _ _ d (H.kX (eZ KF)) (.set rfl)
 |@jL _ m t i=>exact⟨aX rfl,cB (dx rfl rfl (m0 rfl rfl (bj R H rfl (nU R H.bu (dA _) i λk d=>q _ _ d (H.kX (eZ (U t))) (.set rfl)))))⟩
 |join S z E nm C D F b4=>refine⟨aX rfl,cB (dx rfl rfl (dx rfl rfl (m0 rfl rfl (bX R H rfl yI (sb rfl rfl (sb rfl rfl (sb rfl rfl ?_)))))))⟩;exact sb rfl rfl (ax (I3 R H S z E nm C D F b4 q))
 |@no _ l top p L r e A0 G P=>refine⟨aX rfl,cB (dx rfl rfl (dx rfl rfl (dx rfl rfl (m0 rfl rfl (bj R H rfl (zh R H.up (v:=g0 p) (by refine((Z e ?_):(M.up l).map g0=_);rfl) λk d=>?_))))))⟩;have g:=H.wX (f:=aH M.up l KF) (dq KF);exact bX d g rfl tf (turn d g A0 G P λI A2 u J K=>q _ _ u J (.trans (.set rfl) K))
 |@apart _ a b xs x ys y N B T W X l2=>refine⟨aX rfl,cB (dx rfl rfl (dx rfl rfl (dx rfl rfl (dx rfl rfl (m0 rfl rfl (b7 R H rfl H.bl (j4 N) ?_))))))⟩;have o:=H.ec a N;replace o:=La▸T▸o;refine ab (aq R o) ⟨rfl,aq R o,pS R o (Z (KE _) X) λk d=>?_⟩;have g:=H.m' (t:=a) (l:=xs) rfl;refine b7 d g rfl g.bl (j4 B) ?_;have j:=g.ec b B;replace j:=La▸W▸j;exact ab (aq d j) ⟨rfl,aq d j,pS d j (Z (KE _) l2) λI u=>q _ _ u (g.m' (t:=b) (l:=ys) rfl) (.trans (.set rfl) (.set rfl))⟩
 |@a7 _ t c e=>refine⟨aX rfl,cB (dx rfl rfl (dx rfl rfl (dx rfl rfl (dx rfl rfl (dx rfl rfl (dx rfl rfl (bj R H rfl (zh R H.a7 (v:=fb c) (by refine(?_ :(M.a7 t).map fb=_);refine Z e ?_;rfl) λk d=>?_))))))))⟩;exact q _ _ d (H.rC (dq KF)) (.set rfl)
noncomputable def Hs.ov(M X:Hs):Hs:={M with a4:=X.a4,aw:=X.aw,aU:=X.aU,j3:=X.j3,ak:=X.ak,am:=X.am}
theorem fw.ov{e:e2}{m:Hs}(X:Hs)(u:fw e M m):fw e (M.ov X) (m.ov X):=by
 cases u with
 |g6 a=>exact fw.g6 (M:=M.ov X) a
 |jL a=>exact fw.jL (M:=M.ov X) a
 |join a b c d e f g i=>exact fw.join (M:=M.ov X) a b c d e f g i
 |no a b c d=>exact fw.no (M:=M.ov X) a b c d
 |apart a b c d e f=>exact fw.apart (M:=M.ov X) a b c d e f
 |a7 a=>exact fw.a7 (M:=M.ov X) a
inductive iq:List e2->Hs->Hs->Prop
 |nil {M:Hs}:iq [] M M
 |ls {es e M m S}:fw e M m->iq es m S->iq (es++[e]) M S
noncomputable def rT(M S:Hs)(T:List e2)(m:List Nat):Hs:={S with a4:=M.a4.filter (λt=>(S.a7 t).isSome),aw:=[],aU:=KF,j3:=M.j3,ak:=T,am:=m}
noncomputable def pU(k:Nat):Bool:=pL k&&!(Lk k 25||Lk k 26)
theorem Cp(k:Nat)(h:pU k=true):pL k=true:=((Lu ..).mp h).1
theorem Kl{a b:Int}{P:Bool->Prop}(q:P (decide (b<a))):bB (gI h .gt (.int a) (.int b)) P:=q
theorem yu{step:V->List V->(List V->Hp->Prop)->Hp->Prop}{p:Int->Bool}{P:List V->Hp->Prop}{r:cq}(e:h.o r=U (.list (ae l)))(H:l.length<=aN)
  (s:∀i∈l,∀acc (K:List V->Hp->Prop),acc.length<aN->K (acc++(if p i=true then U (V.int i) else KF).toList) h->step (.int i) acc K h)(q:P (ae (l.filter p)) h):iter step ((ae l).length+1) (.cZ r 0) [] P h:=by
 refine v9 (f:=λv=>match v with |.int i=>if p i=true then U (V.int i) else KF |_=>KF) e (λv b acc K A k=>?_) _ 0 [] (by refine Z (bb _) ?_;simpa using H) (No _).symm ?_
 ·refine aD (Lo.mp b) λi d E=>?_;clear b;subst E
  exact s i d acc K A k
 ·have:(ae l).filterMap (λv=>match v with |.int i=>if p i=true then U (V.int i) else KF |_=>KF)=ae (l.filter p):=by
   clear s q H e;induction l with
   |nil=>rfl
   |cons a r I=>
    refine(?_ :NH _ (V.int a::ae r)=_);refine Z Lg (Z MI ?_);dsimp only;by_cases c:p a=true;·exact Z (if_pos c) (Z (if_pos c) (congrArg (V.int a::·) I))
    ·exact Z (if_neg c) (Z (if_neg c) I)
  simp only[OG,List.drop_zero,this];exact q
structure PI(A:AH)(M S:Hs)(k spot:Nat)(T:List e2)(m:Nat)(O:aV)(h:Hp)(a:AH)(N:Hs)(es:List e2):Prop where
 O:O=[U Me,U (.int k),U (.int spot),U (.ref (a.R 25 0)),U (.ref (a.R 26 0)),KF,KF,KF,KF]
 R:AR h a
 H:ah a (N.ov (M.bR (T++es)))
 B:iq es N S
 m:es.length=m
 o1:a.o 25 0=U (.list [])
 o2:a.o 26 0=U (.list [])
 F:Fr pU A a
 l:(T++es).length<=aN
theorem aB{i:Nat}{v:V}(e:(J[i]?).join=U v)(q:Q v h):Ex.wp G1 C (.var i) J Q h:=ab e q
theorem w0{a b c:Nat}(h:a=b+c):(a:Int)-c=b:=by lia
theorem yJ{spot:Nat}(R:AR h A)(H:ah A M)(E:M.aw=[])(o:A.o 25 0=U (.list []))(s:A.o 26 0=U (.list []))(l:M.a4.length<=aN)(q:∀h' d,AR h' d->ah d (M.eJ (M.a4.filter λt=>(M.a7 t).isSome))->Fr pL A d->Q .none h'):
  St.bh G1 (a5 G1 T1 (n+2)) (cT.body.drop 7) [U Me,U (.int k),U (.int spot),U (.ref (A.R 25 0)),U (.ref (A.R 26 0)),KF,KF,KF,KF] (Fl.cY Q) h:=by
 refine bj R H rfl (ab (cU R H.a4) ⟨_,yu (p:=λt=>(M.a7 t).isSome) (R.io H.a4) l (λi I acc K u b=>?_) ?_⟩)
 ·refine bj R H rfl (q8 R H.a7 ?_)
  have e:((M.a7 i).map fb).isSome=(M.a7 i).isSome:=by cases M.a7 i<;>rfl
  refine Z e ?_;induction c:(M.a7 i).isSome with
  |true=>replace b:=c▸b;exact bW rfl ⟨u,b⟩
  |false=>replace b:=c▸b;exact bI rfl (by simpa using b)
 ·exact wI R H (Z (bb _) (KB (M6 _ _) l)) λx g r j f=>hR ((cJ f rfl:g.R 25 0=A.R 25 0)) (hR ((cJ f rfl:g.R 26 0=A.R 26 0)) (cE r ((f 25 0 rfl).1.trans o) (bz (K3 _) (ab (a:=.bp []) rfl ⟨1,bX r j rfl i5 (ax (pJ r j E λy v m w F=>hR ((cJ F rfl:v.R 26 0=g.R 26 0)) (cE m ((F 26 0 rfl).1.trans ((f 26 0 rfl).1.trans s)) (bz (K3 _) (ab (a:=.bp []) rfl ⟨1,q _ _ m w ((f.bU Dj).trans F)⟩)))))⟩))))
theorem vl(R:AR h A)(H:ah A M){S:Hs}{s r:List Nat}{spot:Nat}{T es:List e2}(W:M.am=s++spot::r)(et:M.ak=T++es)(sp:T.length=spot)(B:iq es M S)(u:M.am.length<=aN)(lt:M.ak.length<=aN)(ln:M.a4.length<=aN)
  (hc:M.aU=KF\/s.length<M.j3)(q:∀h' w,AR h' w->ah w (rT M S T s)->Fr pU A w->Q .none h'):cw (n+3) "pop_levels" [Me,.int ((r.length+1:Nat):Int)] Q h:=by
 have L:s.length+(r.length+1)=M.am.length:=by simp only[W,KH,Lr]
 have e1:((M.am.map λ(n:Nat)=>V.int n).length:Int)-((r.length+1:Nat):Int)=(s.length:Int):=w0 (Z (KE _) L.symm);have f1:fits ((M.am.map λ(n:Nat)=>V.int n).length:Int):=by exact Z (KE _) ⟨Mw (by decide) (Lw _),fY u⟩
 have f2:fits ((r.length+1:Nat):Int):=⟨Mw (by decide) (Lw _),fY (KB (M3 _ _) (Z L u))⟩;have x:(M.am.map λ(n:Nat)=>V.int n).length<=aN:=Z (KE _) u;refine ab nd ⟨rfl,bj R H rfl (bj R H rfl (cE R H.am ⟨x,f1,f2,Z e1 ?_⟩))⟩;have ei:jt (M.am.map λ(n:Nat)=>V.int n) (s.length:Int)=U (.int spot):=by
  unfold jt
  (refine Z (if_pos (Lw _)) ?_;rw[Mn,W,La,Lj (by rw[KE];exact KX _),KE,MY])
  rfl
 refine jO R H.am ei ⟨aX rfl,bj R H rfl (bj R H rfl (cE R H.am ⟨x,f1,f2,Z e1 ?_⟩))⟩;have X:(M.am.map λ(n:Nat)=>V.int n).take s.length=s.map λ(n:Nat)=>V.int n:=by exact Z W (Z La (Z (N0 (Z (KE _) (KX _))) (Z (NF (Z (KE _) (KX _))) rfl)))
 refine hW (C:=a5 G1 T1 (n+2)) (bT R H.am) (fY (KB (Lf _ _) (Z L u))) (Z X (CT R H (Z (KE _) (KB (Lf _ _) (Z L u))) λh1 A1 R1 b F1=>?_));refine c6 25 0 (xs:=[]) R1 (K3 _) λm2 h2 R2=>c6 26 0 (xs:=[]) R2 (K3 _) λm3 h3 ac=>⟨(by decide:2<=aN),rfl,aX rfl,aX rfl,?_⟩;refine h9 (λm J h=>∃w N es,PI A (M.dg s) S (r.length+1) spot T m J h w N es) ?_ ⟨_,M,es,rfl,ac,?_,B,rfl,rfl,rfl,((F1.bU Cp).trans (.trans (.new rfl) (.new rfl)):Fr pU A ((A1.new 25 0 m2 (.list [])).new 26 0 m3 (.list []))),hR et lt⟩
 case refine_2=>exact hR et ((⟨b.cl,b.sn,b.bn,b.self,b.Y,b.mem,b.aM,b.val,b.bl,b.bK,b.up,b.bu,b.aC,b.a7,b.a4,b.aw,b.ak,b.am,b.ft,b.c8,b.ec,b.fT,b.fy,b.ops,b.args,b.bF⟩:ah ((A1.new 25 0 m2 (.list [])).new 26 0 m3 (.list [])) (M.dg s)))
 rintro m J h4 K ⟨G,N,E,rfl,j,o,B4,rfl,o1,o2,F4,l4⟩ k;have y:((T++E).map e2.v).length=T.length+E.length:=Z (KE _) (Z KH rfl);refine bj j o rfl (cE j o.ak ⟨by refine Z (KE _) ?_;exact l4,?_⟩);cases B4 with
 |@ls es e _ af _ ag B4=>
  refine aB rfl (ab (a:=true) (congrArg U (decide_eq_true ?_)) ?_)
  ·refine(?_ :(spot:Int)<(((T++(es++[e])).map e2.v).length:Nat))
   simp only[y,sp,KH];exact M1.mpr (NB (MR _))
  refine bW rfl ?_;have ht:G.o 13 0=U (.list ((T++es).map e2.v++[e.v])):=by
   refine o.ak.trans (?_ :U (AO.list ((T++(es++[e])).map e2.v))=_)
   (refine hR (K7 _ _ _) (Z La ?_));rfl
  have l5:(T++es).length<aN:=by rw[<-K7,KH] at l4;exact l4
  refine bX j o rfl zF (bj j o rfl (ab (aq j ht) ⟨rfl,aq j ht,pS j ht (Z (KE _) l5) λh5 p=>?_⟩));have g:ah (G.set 13 0 (.list ((T++es).map e2.v))) (N.ov ((M.dg s).bR (T++es))):=o.c7 (l:=T++es) rfl;refine a2 rfl rfl (IF p g (ag.ov _) λh6 d z H6 f=>k _ (Z KH (LU _)) _ _ ⟨d,af,es,Z (cJ f (k:=25) rfl) (Z (cJ f (k:=26) rfl) ?_),z,H6,B4,rfl,(f 25 0 rfl).1.trans o1,(f 26 0 rfl).1.trans o2,F4.trans (.trans (.set rfl) (f.bU Cp)),Lq l5⟩);rfl
 |nil=>
  refine aB rfl (ab (a:=false) (congrArg U (decide_eq_false ?_)) ?_)
  ·refine(?_ :¬(spot:Int)<(((T++[]).map e2.v).length:Nat))
   exact Z y (hR sp (SP _))
  refine bI rfl ?_;rw[K8] at o;refine rW (l:=[]) j o (K3 _) λh5 i p g F=>?_;have t:=λh6 d (z:AR h6 d) (H6:ah d (((S.ov ((M.dg s).bR T)).cW []).eb KF M.j3)) (f:Fr pL i d)=>yJ (n:=n) (Q:=Q) (k:=r.length+1) (spot:=spot) z H6 rfl ((f 25 0 rfl).1.trans ((F 25 0 rfl).1.trans o1)) ((f 26 0 rfl).1.trans ((F 26 0 rfl).1.trans o2)) ln λh7 A7 R7 H7 F7=>q h7 A7 R7 H7 ((F4.trans (F.bU Cp)).trans ((f.trans F7).bU Cp));have I:∀d,Fr pL i d->d.R 25 0=G.R 25 0/\d.R 26 0=G.R 26 0:=λd f=>⟨(cJ f rfl).trans (cJ F rfl),(cJ f rfl).trans (cJ F rfl)⟩;refine bj p g (v:=sg M.aU) rfl ?_;induction P:M.aU with
  |none=>
   have e:((S.ov ((M.dg s).bR T)).cW [])=(((S.ov ((M.dg s).bR T)).cW []).eb KF M.j3):=by refine(?_ :_=(_:Hs));unfold Hs.eb;refine hR P ?_;rfl
   have:=t h5 i p (hR e g) .refl;replace this:=((I i .refl).2)▸((I i .refl).1)▸this;exact aS this
  |some l=>
   have aa:s.length<M.j3:=hc.resolve_left λe=>by replace P:=e▸P;exact(nomatch P)
   refine aS ?_;have D:(s.map λ(n:Nat)=>V.int n).length=s.length:=KE _;refine bj p g rfl (cE p g.am ⟨KB (KQ D) (KB (Lf _ _) (Z L u)),bj p g rfl (ab (a:=true) (congrArg U (decide_eq_true ?_)) ?_)⟩);·exact((Z D (M1.mpr aa)):((s.map λ(n:Nat)=>V.int n).length:Int)<(M.j3:Int))
   refine bW rfl (vC p g (fs':=ai.L1.bC i (((S.ov ((M.dg s).bR T)).cW []).eb KF M.j3)) rfl λh6 z=>?_);have f:Fr pL i (i.set 30 0 (.dS (ai.L1.bC i (((S.ov ((M.dg s).bR T)).cW []).eb KF M.j3)))):=.set rfl;have:=t _ _ z (g.ES (c:=KF) (k:=M.j3) λ_ e=>nomatch e) f;replace this:=((I _ f).2)▸((I _ f).1)▸this;exact this
theorem wY{k:Nat}{s g:Int}(n:s≠g):V.ref (A.R k s)≠.ref (A.R k g):=λe=>n (congrArg cq.t (V.ref.inj e))
theorem Da{k:Nat}(R:AR h A)(e:A.o k t=U (.list xs))(q:newList xs Q h):qI .list [.ref (A.R k t)] Q h:=by exact(ab (R.io e) q:bB (h.o (A.R k t)) (Obj.toL Q h))
theorem D9{i j:Nat}{P:PS}(e:(J[0]?).join=U Me)(E:(J[i]?).join=U (.int g))(b:(J[j]?).join=U (.int s))(R:AR h A)(H:ah A M)(n:aj g)(N:aj s)(c:s≠g)(l:(M.mem g).length+(M.mem s).length<=aN)
  (q:∀h' a,AR h' a->ah a (M.oe g (M.mem g++M.mem s))->Fr pL A a->P .next J h'):St.wp G1 C (.expr (.az (.sub (.ao (.var 0) "members") (.var i)) "extend" [.sub (.ao (.var 0) "members") (.var j)])) J P h:=by
 have o:=H.ft g n;exact ab e (bj R H rfl (ab E (cK R H.mem (j4 n) (ab (aq R o) ⟨rfl,ab e (bj R H rfl (ab b (cK R H.mem (j4 N) ⟨aq R o,iz R o (wY c) (bT R (H.ft s N)) (Z (bb _) (Z (bb _) l)) λd r=>q _ _ r (H.Ei (fB _ _)) (.set rfl)⟩)))⟩))))
theorem BR{i j:Nat}{P:PS}(e:(J[0]?).join=U Me)(E:(J[i]?).join=U (.int g))(b:(J[j]?).join=U (.int s))(R:AR h A)(H:ah A M)(n:aj g)(N:aj s)(c:s≠g)(l:(M.aM g).length+(M.aM s).length<=aN)
  (q:∀h' a,AR h' a->ah a (M.gX g (M.aM g++M.aM s))->Fr pL A a->P .next J h'):St.wp G1 C (.expr (.az (.sub (.ao (.var 0) "uses") (.var i)) "extend" [.sub (.ao (.var 0) "uses") (.var j)])) J P h:=by
 have o:=H.c8 g n;exact ab e (bj R H rfl (ab E (cK R H.aM (j4 n) (ab (aq R o) ⟨rfl,ab e (bj R H rfl (ab b (cK R H.aM (j4 N) ⟨aq R o,iz R o (wY c) (bT R (H.c8 s N)) (Z (bb _) (Z (bb _) l)) λd r=>q _ _ r (H.q2 (fB _ _)) (.set rfl)⟩)))⟩))))
theorem Es{i j:Nat}{P:PS}(e:(J[0]?).join=U Me)(E:(J[i]?).join=U (.int g))(b:(J[j]?).join=U (.int s))(R:AR h A)(H:ah A M)(n:aj g)(N:aj s)(c:s≠g)(l:(M.bl g).length+(M.bl s).length<=aN)
  (q:∀h' a,AR h' a->ah a (M.hk g (M.bl g++M.bl s))->Fr pL A a->P .next J h'):St.wp G1 C (.expr (.az (.sub (.ao (.var 0) "apart") (.var i)) "extend" [.sub (.ao (.var 0) "apart") (.var j)])) J P h:=by
 have o:=H.ec g n;exact ab e (bj R H rfl (ab E (cK R H.bl (j4 n) (ab (aq R o) ⟨rfl,ab e (bj R H rfl (ab b (cK R H.bl (j4 N) ⟨aq R o,iz R o (wY c) (bT R (H.ec s N)) (Z (KE _) (Z (KE _) l)) λd r=>q _ _ r (H.m' (La.symm)) (.set rfl)⟩)))⟩))))
theorem FY{i j:Nat}{P:PS}(e:(J[0]?).join=U Me)(E:(J[i]?).join=U (.int g))(b:(J[j]?).join=U (.int s))(R:AR h A)(H:ah A M)(n:aj g)(N:aj s)(c:s≠g)(l:(M.bK g).length+(M.bK s).length<=aN)
  (q:∀h' a,AR h' a->ah a (M.mq g (M.bK g++M.bK s))->Fr pL A a->P .next J h'):St.wp G1 C (.expr (.az (.sub (.ao (.var 0) "watchers") (.var i)) "extend" [.sub (.ao (.var 0) "watchers") (.var j)])) J P h:=by
 have o:=H.fT g n;exact ab e (bj R H rfl (ab E (cK R H.bK (j4 n) (ab (aq R o) ⟨rfl,ab e (bj R H rfl (ab b (cK R H.bK (j4 N) ⟨aq R o,iz R o (wY c) (bT R (H.fT s N)) (Z (bb _) (Z (bb _) l)) λd r=>q _ _ r (H.vf (fB _ _)) (.set rfl)⟩)))⟩))))
noncomputable def bg(N:Hs)(t:Int):Hs:=match ai.M.arg t with
 |some u=>cL N t u
 |none=>N
noncomputable def ba(N:Hs)(t:Int):Hs:=match ai.M.arg t with
 |some u=>cx N t u
 |none=>N
noncomputable def aT(N:Hs)(l:List Int):Hs:=l.foldl bg N
noncomputable def br(N:Hs)(l:List Int):Hs:=l.foldl ba N
theorem oX(N:Hs)(l:List Int)(t:Int):aT N (l++[t])=bg (aT N l) t:=M7
theorem kj(N:Hs)(l:List Int)(t:Int):br N (l++[t])=ba (br N l) t:=M7
theorem l'(N:Hs)(t u:Int):(cL N t u).ak.length<=N.ak.length+1:=by
 unfold cL;split;·exact KQ (be _)
 ·exact Lv _
theorem og(N:Hs)(t u:Int):(cx N t u).ak.length<=N.ak.length+1/\(cx N t u).aw.length<=N.aw.length+1:=by
 unfold cx;split;·exact⟨KQ (be _),Lv _⟩
 ·split
  ·exact⟨Lv _,Lv _⟩
  ·exact⟨Lv _,KQ (be _)⟩
def lz(N:Hs):Prop:=∀m o,N.bu m=U o->aj o
theorem wF{f:List Int->Option Int}{o:Int}(h:aH f m v k=U o):f k=U o\/v=U o:=by
 by_cases c:k=m;·subst c;rw[ai.M.aP] at h;exact .inr h
 ·rw[ai.M.aI _ _ c] at h;exact .inl h
theorem rE(h:lz N):lz (cL N t u):=by
 unfold cL;split
 ·intro m o e
  exact KS (wF e) (λe=>h _ _ e) λe=>al e
 ·exact h
theorem t6(h:lz N)(n:aj t):lz (cx N t u):=by
 unfold cx;split
 ·intro m o e
  refine KS (wF e) (λe=>h _ _ e) λe=>?_
  (replace e:=KC e;subst e);exact n
 ·split
  ·exact h
  ·exact h
theorem rk(N:Hs)(t u:Int):(cL N t u).Y=N.Y:=by unfold cL;split<;>rfl
theorem lF(N:Hs)(t u:Int):(cx N t u).Y=N.Y:=by
 unfold cx;split;·rfl
 ·split<;>rfl
theorem EJ{i:Nat}{P:PS}{mv:List Int}(g:∀{t h' c N p},AR h' c->ah c N->(∃u,ai.M.arg t=U u)->N.ak.length<aN->(∀f d,AR f d->ah d (bg N t)->Fr pL c d->p .none f)->C ("Congruence"++"."++"take_off") [Me,.int t] p h')
  (I:i<J.length)(j:0≠i)(E:(J[0]?).join=U Me)(R:AR h A)(H:ah A M)(m:∀t∈mv,∃u,ai.M.arg t=U u)(lt:M.ak.length+mv.length<=aN)
  (q:∀h' c y,AR h' c->ah c (aT M mv)->(aT M mv).ak.length<=M.ak.length+mv.length->Fr pL A c->P .next (J.set i y) h'):
  ∃n,dp (λv J Q h=>Tg.wp G1 C (.var i) v J Q h) (λJ Q h=>St.bh G1 C [.expr (.az (.var 0) "take_off" [.var i])] J Q h) n (.bp (ae mv)) J P h:=by
 refine i3 (λl c=>ah c (aT M l)/\(aT M l).ak.length<=M.ak.length+l.length/\Fr pL A c) I (λl t L c h' K e b r k=>ab (a:=Me) (Z (d5 j) E) (bX r b.1 rfl rK (ab (a:=.int t) (by refine Z (g7 I) ?_;rfl) (g r b.1 (m t (Z e (K1 _ KJ))) (KU b.2.1 (K6 (O' (K6 (NB (MR L.length)) (KQ ((congrArg Oh e).trans KH).symm):l.length<mv.length) _) lt)) λw x o s F=>k _ _ o ?_)))) (λc h' y b r=>q _ _ y r b.1 b.2.1 b.2.2) R ⟨H,KX _,.refl⟩;refine Z (oX _ _ _) ⟨s,Z KH (KB (?_ :(bg (aT M l) t).ak.length<=(aT M l).ak.length+1) (Ld b.2.1)),b.2.2.trans F⟩;unfold bg;split;·exact l' _ _ _
 ·exact Lv _
structure H6(M:Hs)(l:List Int):Prop where
 a:(br M l).ak.length<=M.ak.length+l.length
 b:(br M l).aw.length<=M.aw.length+l.length
 n:lz (br M l)
 r:(br M l).Y=M.Y
theorem H6.ls{L:List Int}{t:Int}(I:H6 M L)(h:∃u,ai.M.arg t=U u):H6 M (L++[t]):=by
 refine cV h λu h=>?_;have e:br M (L++[t])=cx (br M L) t u:=by rw[kj];unfold ba;exact Z h rfl
 have l:=og (br M L) t u;rw[<-e] at l;exact⟨KB l.1 (KB (Ld I.a) (Z KH (KX _))),KB l.2 (KB (Ld I.b) (Z KH (KX _))),Z e (t6 I.n (aZ h).1),Z e ((lF _ _ _).trans I.r)⟩
theorem BH{i:Nat}{P:PS}{mv:List Int}(j:∀{t h' c N p},AR h' c->ah c N->(∃u,ai.M.arg t=U u)->(∀t,aj t->aj (N.Y t))->lz N->N.ak.length<aN->N.aw.length<aN->(∀f d,AR f d->ah d (ba N t)->Fr pL c d->p .none f)->C ("Congruence"++"."++"look_up") [Me,.int t] p h')
  (I:i<J.length)(m:0≠i)(E:(J[0]?).join=U Me)(R:AR h A)(H:ah A M)(o:∀t∈mv,∃u,ai.M.arg t=U u)(s:∀t,aj t->aj (M.Y t))(T:lz M)(lt:M.ak.length+mv.length<=aN)(w:M.aw.length+mv.length<=aN)
  (q:∀h' c y,AR h' c->ah c (br M mv)->Fr pL A c->P .next (J.set i y) h'):
  ∃n,dp (λv J Q h=>Tg.wp G1 C (.var i) v J Q h) (λJ Q h=>St.bh G1 C [.expr (.az (.var 0) "look_up" [.var i])] J Q h) n (.bp (ae mv)) J P h:=by
 refine i3 (λl c=>ah c (br M l)/\H6 M l/\Fr pL A c) I (λl t B c h' K e b r k=>?_) (λc h' y b r=>q _ _ y r b.1 b.2.2) R ⟨H,⟨KX _,KX _,T,rfl⟩,.refl⟩;have L:l.length<mv.length:=K6 (NB (MR B.length)) (KQ ((congrArg Oh e).trans KH).symm);have g:=o t (Z e (K1 _ KJ));refine ab (a:=Me) (Z (d5 m) E) (bX r b.1 rfl lJ (ab (a:=.int t) (by refine Z (g7 I) ?_;rfl) (j r b.1 g (Z b.2.1.r s) b.2.1.n (KU b.2.1.a (K6 (O' L _) lt)) (KU b.2.1.b (K6 (O' L _) w)) λD G x z F=>k _ _ x ?_)));exact⟨kj ..▸z,b.2.1.ls g,b.2.2.trans F⟩
noncomputable def c9(N:Hs)(s g:Int):Hs:=N.bR (N.ak++[.join s g (N.mem g).length (N.aM g).length (N.bl g).length (N.bK g).length (N.val g)])
noncomputable def dh(N:Hs)(s g:Int):Hs:=((((N.kB (ey (N.mem s) g N.Y)).oe g (N.mem g++N.mem s)).gX g (N.aM g++N.aM s)).hk g (N.bl g++N.bl s)).mq g (N.bK g++N.bK s)
noncomputable def dO(N:Hs)(s g:Int):Hs:=if N.val g=0 then N.ua (aH N.val g (N.val s)) else N
noncomputable def b6(M:Hs)(l r:Int)(w:Option Int)(L:List eN)(top:Int):Hs:=br (dO (dh (c9 (aT (cp M l r w L top) (M.aM (M.Y l))) (M.Y l) (M.Y r)) (M.Y l) (M.Y r)) (M.Y l) (M.Y r)) (M.aM (M.Y l))
structure zJ(J:Hs)(s g f e:Int):Prop where
 W:h3 J.up
 S:mD J
 ap:∀p∈J.bl s,J.Y p.1=J.Y p.2.1->n9 J.up p.1 p.2.1
 vs:f≠0->e≠0->aj f/\aj e/\J.Y f=J.Y e/\n9 J.up f e
 bK:∀w∈J.bK g,∃s,J.aC w=U s
 ln:J.a4.length+(J.bK g).length<=aN
 lt:J.ak.length+(J.bK g).length<=aN
 lm:J.am.length<=aN
inductive iO(M:Hs)(l r:Int)(w:Option Int):Hs->Prop
 |jV {L top N}:cn M.up l L top->(M.val (M.Y l)=0\/M.val (M.Y r)=0)->(∀p∈(b6 M l r w L top).bl (M.Y l),(b6 M l r w L top).Y p.1≠(b6 M l r w L top).Y p.2.1)->iT (b6 M l r w L top) ((b6 M l r w L top).bK (M.Y r)) N->iO M l r w N
 |aU {L top x}:cn M.up l L top->((M.val (M.Y l)≠0/\M.val (M.Y r)≠0)\/∃p∈(b6 M l r w L top).bl (M.Y l),(b6 M l r w L top).Y p.1=(b6 M l r w L top).Y p.2.1)->iO M l r w ((b6 M l r w L top).eb (U x) (b6 M l r w L top).am.length)
structure k1(M:Hs)(l r:Int)(w:Option Int):Prop where
 W:h3 M.up
 nl:aj l
 nr:aj r
 ne:M.Y l≠M.Y r
 rn:∀t,aj t->aj (M.Y t)
 mn:∀t∈M.mem (M.Y l),aj t
 un:∀t∈M.aM (M.Y l),∃u,ai.M.arg t=U u
 tn:lz M
 lt:M.ak.length+100<=aN
 lq:M.aw.length+100<=aN
 l1:(M.mem (M.Y r)).length+(M.mem (M.Y l)).length<=100
 l2:(M.aM (M.Y r)).length+(M.aM (M.Y l)).length<=40
 l3:(M.bl (M.Y r)).length+(M.bl (M.Y l)).length<=100
 l4:(M.bK (M.Y r)).length+(M.bK (M.Y l)).length<=100
 af:∀L top,cn M.up l L top->zJ (b6 M l r w L top) (M.Y l) (M.Y r) (M.val (M.Y l)) (M.val (M.Y r))
theorem oR(N:Hs)(t:Int):bg N t={N with ak:=(bg N t).ak,bu:=(bg N t).bu}:=by
 unfold bg;split
 ·unfold cL
  split<;>rfl
 ·rfl
theorem e':∀(l:List Int) (N:Hs),aT N l={N with ak:=(aT N l).ak,bu:=(aT N l).bu}
 |[],N=>rfl
 |t::l,N=>by refine((Z (e' l (bg N t)) ?_):aT (bg N t) l={N with ak:=(aT (bg N t) l).ak,bu:=(aT (bg N t) l).bu});dsimp only;exact Z (oR N t) rfl
theorem ga(N:Hs)(s g:Int):dO N s g={N with val:=(dO N s g).val}:=by unfold dO;split<;>rfl
theorem jH:∀(l:List Int) {N:Hs},lz N->lz (aT N l)
 |[],N,h=>h
 |t::l,N,h=>by
  refine jH l ?_;unfold bg;split;·exact rE h
  ·exact h
theorem FF(k:Nat)(h:pL k=true):pT k=true:=by unfold pT;simp only[qU h (j:=10) rfl,qU h (j:=11) rfl,qU h (j:=13) rfl];rfl
theorem vj{j:Nat}{P:PS}(e:(J[j]?).join=U (.fl xs))(q:∃n,dp (λv J Q h=>Tg.wp G1 C (.var i) v J Q h) (St.bh G1 C b) n (.bp xs) J P h):St.wp G1 C (.for (.var i) (.var j) b) J P h:=ab e q
inductive wq(J:Hs)(s g f e:Int):Hs->Prop
 |jV {N}:(f=0\/e=0)->(∀p∈J.bl s,J.Y p.1≠J.Y p.2.1)->iT J (J.bK g) N->wq J s g f e N
 |aU {x}:((f≠0/\e≠0)\/∃p∈J.bl s,J.Y p.1=J.Y p.2.1)->wq J s g f e (J.eb (U x) J.am.length)
theorem yP{mv:V}{y:Option V}(R:AR h A)(H:ah A M)(N:aj s)(E:aj g)(G:zJ M s g f e)(q:∀h' o u,AR h' o->ah o u->Fr pL A o->wq M s g f e u->Q .none h'):
  St.bh G1 (a5 G1 T1 (n+4)) (cm.body.drop 14) [U Me,U (.int l),U (.int r),U (sU w),U (.int s),U (.int g),U mv,y,U (.int f),U (.int e),KF] (Fl.cY Q) h:=by
 have v:(f=0\/e=0)->cw (n+4) "torn" [Me,.int s] (Ft (Tg.wp G1 (a5 G1 T1 (n+4)) (.var 10)) [U Me,U (.int l),U (.int r),U (sU w),U (.int s),U (.int g),U mv,y,U (.int f),U (.int e),KF] (n0 (St.bh G1 (a5 G1 T1 (n+4)) (cm.body.drop 15)) (Fl.cY Q))) h:=by
  intro z;refine Jl R H G.W N (G.S.bl s N:∀p∈M.bl s,aj p.1/\aj p.2.1) G.ap (λI=>⟨aX rfl,?_⟩) λJ K x d i t c L=>⟨aX rfl,?_⟩;·refine bX R H rfl iF (a1 rfl (m1 R H G.S E G.bK G.ln G.lt λB D Z j k T F=>q _ _ _ j k (F.bU FF) (.jV z I T)))
  ·refine bX d i rfl gs (a1 rfl (j2 d i (KB L (by decide)) G.lm λB D j k F=>q _ _ _ j k ((t.bU pQ).trans F) (.aU (.inr c))))
 by_cases C:f=0;·exact oY (a:=f) (b:=0) C (bX R H rfl tI (a1 rfl (v (.inl C))))
 ·by_cases m:e=0
  ·exact mx (a:=f) (b:=0) C (oY (a:=e) (b:=0) m (bX R H rfl tI (a1 rfl (v (.inr m)))))
  ·exact fj (G.vs C m) λP S re W=>mx (a:=f) (b:=0) C (mx (a:=e) (b:=0) m (bX R H rfl du (a2 rfl rfl (hZ R H G.W P S re W λJ K x d i t o1 X=>⟨aX rfl,bX d i rfl gs (a1 rfl (j2 d i (KB X (by decide)) G.lm λB D j k F=>q _ _ _ j k ((t.bU pQ).trans F) (.aU (.inl ⟨C,m⟩))))⟩))))
theorem ym{mv:List Int}{y:Option V}(R:AR h A)(H:ah A M)(S:aj s)(p:aj g)(v:∀t∈mv,∃u,ai.M.arg t=U u)(x:∀t,aj t->aj (M.Y t))(z:lz M)(lt:M.ak.length+mv.length<=aN)(B:M.aw.length+mv.length<=aN)(G:zJ (br M mv) s g f e)
  (q:∀h' b m,AR h' b->ah b m->Fr pL A b->wq (br M mv) s g f e m->Q .none h'):
  St.bh G1 (a5 G1 T1 (n+4)) (cm.body.drop 13) [U Me,U (.int l),U (.int r),U (sU w),U (.int s),U (.int g),U (.fl (ae mv)),y,U (.int f),U (.int e),KF] (Fl.cY Q) h:=by
 refine vj (i:=7) (j:=6) rfl (BH (i:=7) (mv:=mv) (λ{t h' b N X} C H' a c T L d k=>?_) (aX rfl) (by decide) rfl R H v x z lt B λh2 A2 y2 D E F=>yP D E S p G λh3 A3 M3 I J K P=>q _ _ _ I J (F.trans K) P)
 ·obtain⟨u,a⟩:=a
  have W:ba N t=cx N t u:=by unfold ba;exact Z a rfl
  replace k:=W▸k;exact CB C H' a (c _ (aZ a).2) (λo=>T _ o) L d k
theorem qM(R:AR h A)(H:ah A M)(J:k1 M l r w)(q:∀h' v B,AR h' v->ah v B->Fr pL A v->iO M l r w B->Q .none h'):
  St.bh G1 (a5 G1 T1 (n+4)) (cm.body.drop 1) [U Me,U (.int l),U (.int r),U (sU w),KF,KF,KF,KF,KF,KF,KF] (Fl.cY Q) h:=by
 refine g9 (cn.exists (J.W.ac l)) λL top P=>?_;have s:=J.rn l J.nl;have g:=J.rn r J.nr;have G:=J.af L top P;refine b7 R H rfl H.Y (rd J.nl) (b7 R H rfl H.Y (rd J.nr) (FR (by decide:2<=aN) rfl (aX rfl) (aX rfl) (?_)));have T:=J.lt;have x:(M.aM (M.Y l)).length<=40:=KB (M3 _ _) J.l2;refine bX R H rfl Bn (a3 rfl rfl rfl (IE R H J.W P J.nl (K6 (NB (by decide)) T) λh1 A1 X D F1=>b7 X D rfl D.aM (j4 s) (ax (Da (xs:=ae (M.aM (M.Y l))) X (D.c8 _ s) (bz (Z (bb _) (KB x (by decide))) ⟨aX rfl,cB ?_⟩)))));have lh:(cp M l r w L top).ak.length=M.ak.length+1:=be _;refine vj (i:=7) (j:=6) rfl (EJ (i:=7) (mv:=M.aM (M.Y l)) (λ{t h' v N P'} R' H' F aa q'=>?_) (aX rfl) (by decide) rfl X D J.un (Z lh (bM (ip _ _ _) 0x181137913164479138284 rfl T x)) λh2 A2 y p m o F2=>cB ?_)
 ·obtain⟨u,F⟩:=F
  have e1:bg N t=cL N t u:=by unfold bg;exact Z F rfl
  replace q':=e1▸q';exact zR R' H' F aa q'
 replace o:=lh▸o;have tN:lz (aT (cp M l r w L top) (M.aM (M.Y l))):=jH _ J.tn;have eJ:b6 M l r w L top=br (dO (dh (c9 (aT (cp M l r w L top) (M.aM (M.Y l))) (M.Y l) (M.Y r)) (M.Y l) (M.Y r)) (M.Y l) (M.Y r)) (M.aM (M.Y l)):=rfl;have fN:(aT (cp M l r w L top) (M.aM (M.Y l))).Y=M.Y/\(aT (cp M l r w L top) (M.aM (M.Y l))).mem=M.mem/\(aT (cp M l r w L top) (M.aM (M.Y l))).aM=M.aM/\(aT (cp M l r w L top) (M.aM (M.Y l))).bl=M.bl/\(aT (cp M l r w L top) (M.aM (M.Y l))).bK=M.bK/\(aT (cp M l r w L top) (M.aM (M.Y l))).val=M.val/\(aT (cp M l r w L top) (M.aM (M.Y l))).aw=M.aw:=by exact Z (e' (M.aM (M.Y l)) (cp M l r w L top)) ⟨rfl,rfl,rfl,rfl,rfl,rfl,rfl⟩
 generalize aT (cp M l r w L top) (M.aM (M.Y l))=N at*;refine uD fN λf1 f2 f3 f4 f5 f6 f7=>?_;have c1:(N.mem (M.Y r)).length+(N.mem (M.Y l)).length<=100:=Z f2 (J.l1);have c2:(N.aM (M.Y r)).length+(N.aM (M.Y l)).length<=100:=Z f3 (KB J.l2 (by decide));have c3:(N.bl (M.Y r)).length+(N.bl (M.Y l)).length<=100:=Z f4 (J.l3);have c4:(N.bK (M.Y r)).length+(N.bK (M.Y l)).length<=100:=Z f5 (J.l4);have I:∀{a b:Nat},a+b<=100->a<=aN:=λh=>h7 (KB (Lf _ _) h);refine bj p m rfl (ab (aq p m.ak) ⟨rfl,bX p m rfl tu (a1 rfl (Cr p m g (I c1) (I c2) (I c3) (I c4) (b7 p m rfl m.val (rd g) ⟨(by decide:5<=aN),aq p m.ak,bH p m.ak (Z (KE _) (by exact bM (lP _ _ _ _) 0x113781316449813a2841371a1139 rfl T x o:N.ak.length<aN)) λh3 ac=>?_⟩)))⟩);have K:ah _ (c9 N (M.Y l) (M.Y r)):=m.c7 (db N.ak (e2.join (M.Y l) (M.Y r) (N.mem (M.Y r)).length (N.aM (M.Y r)).length (N.bl (M.Y r)).length (N.bK (M.Y r)).length (N.val (M.Y r))));refine b7 ac K rfl K.mem (j4 s) (ab (cU ac (K.ft _ s)) (qL (i:=7) (k:=5) (aX rfl) (by decide) (by decide) rfl rfl ac K s (Z f2 (J.mn):∀t∈N.mem (M.Y l),aj t) λh4 A4 y4 R4 H4 F4=>cB (D9 (C:=a5 G1 T1 (n+4)) (i:=5) (j:=4) rfl rfl rfl R4 H4 g s J.ne (h7 c1) λh5 A5 R5 H5 F5=>cB (BR (C:=a5 G1 T1 (n+4)) (i:=5) (j:=4) rfl rfl rfl R5 H5 g s J.ne (h7 c2) λh6 A6 R6 H6 F6=>cB (Es (C:=a5 G1 T1 (n+4)) (i:=5) (j:=4) rfl rfl rfl R6 H6 g s J.ne (h7 c3) λaf A7 R7 H7 F7=>cB (FY (C:=a5 G1 T1 (n+4)) (i:=5) (j:=4) rfl rfl rfl R7 H7 g s J.ne (h7 c4) λh8 A8 z d F8=>cB ?_))))));have d:ah A8 (dh (c9 N (M.Y l) (M.Y r)) (M.Y l) (M.Y r)):=d;refine b7 z d rfl d.val (rd s) (b7 z d rfl d.val (rd g) ⟨(by decide:2<=aN),rfl,aX rfl,aX rfl,?_⟩);have V:∀t,(dh (c9 N (M.Y l) (M.Y r)) (M.Y l) (M.Y r)).val t=M.val t:=λt=>congrFun f6 t;refine Z (V _) (Z (V _) ?_);have S:=ga (dh (c9 N (M.Y l) (M.Y r)) (M.Y l) (M.Y r)) (M.Y l) (M.Y r);have rK:∀t,aj t->aj ((dO (dh (c9 N (M.Y l) (M.Y r)) (M.Y l) (M.Y r)) (M.Y l) (M.Y r)).Y t):=by
  intro t nt;refine Z S (?_ :aj (ey (N.mem (M.Y l)) (M.Y r) N.Y t))
  (rw[jc];refine Z f1 ?_)
  split;·exact g
  ·exact J.rn t nt
 have tK:lz (dO (dh (c9 N (M.Y l) (M.Y r)) (M.Y l) (M.Y r)) (M.Y l) (M.Y r)):=Z S tN;have lK:(dO (dh (c9 N (M.Y l) (M.Y r)) (M.Y l) (M.Y r)) (M.Y l) (M.Y r)).ak.length=N.ak.length+1:=Z S (be _);have qK:(dO (dh (c9 N (M.Y l) (M.Y r)) (M.Y l) (M.Y r)) (M.Y l) (M.Y r)).aw=M.aw:=Z S f7;replace G:=eJ▸G;have jq:=J.lq;have cY:=λh9 A9 (R9:AR h9 A9) (H9:ah A9 (dO (dh (c9 N (M.Y l) (M.Y r)) (M.Y l) (M.Y r)) (M.Y l) (M.Y r))) (F9:Fr pL A8 A9)=>ym (n:=n) (Q:=Q) (l:=l) (r:=r) (w:=w) (mv:=M.aM (M.Y l)) (y:=y4) (f:=M.val (M.Y l)) (e:=M.val (M.Y r)) R9 H9 s g J.un rK tK (Z lK (bM (lP _ _ _ _) 0x1811379131644a923828413718113a rfl T x o)) (by rw[qK];exact bM (ip _ _ _) 0x187913828413164479 rfl x jq) G λh' v B R' H' F' E'=>q h' v B R' H' (((((F1.trans F2).trans (.trans (.set rfl) F4)).trans ((F5.trans F6).trans (F7.trans F8)):Fr pL A A8).trans F9).trans F') (by
  replace E':=(eJ).symm▸E';clear H';induction E' with
  |jV a b c=>exact .jV P a b c
  |aU a=>exact .aU P a);have E:dO (dh (c9 N (M.Y l) (M.Y r)) (M.Y l) (M.Y r)) (M.Y l) (M.Y r)=if M.val (M.Y r)=0 then(dh (c9 N (M.Y l) (M.Y r)) (M.Y l) (M.Y r)).ua (aH (dh (c9 N (M.Y l) (M.Y r)) (M.Y l) (M.Y r)).val (M.Y r) (M.val (M.Y l))) else dh (c9 N (M.Y l) (M.Y r)) (M.Y l) (M.Y r):=by
  unfold dO;exact Z (V _) (Z (V _) rfl)
 by_cases W:M.val (M.Y r)=0
 ·rw[if_pos W] at E
  replace cY:=E▸cY;exact j9 (a:=M.val (M.Y r)) (b:=0) W (bj z d rfl (cD z d.val (aR g) λh9 R9=>cY _ _ R9 (d.Bs (kK g)) (.set rfl)))
 ·replace E:=(if_neg W)▸E
  replace cY:=E▸cY;exact ju (a:=M.val (M.Y r)) (b:=0) W (cY _ _ z d .refl)
theorem join(R:AR h A)(H:ah A M)(N:aj l)(d:aj r)(g:∀t,aj t->aj (M.Y t))(L:∀t,aj t->(M.mem (M.Y t)).length<=aN)(J:(M.mem (M.Y l)).length<=(M.mem (M.Y r)).length->k1 M l r w)(i:(M.mem (M.Y r)).length<(M.mem (M.Y l)).length->k1 M r l w)
  (q:∀h' b m,AR h' b->ah b m->Fr pL A b->(((M.mem (M.Y l)).length<=(M.mem (M.Y r)).length/\iO M l r w m)\/((M.mem (M.Y r)).length<(M.mem (M.Y l)).length/\iO M r l w m))->Q .none h'):cw (n+5) "join" [Me,.int l,.int r,sU w] Q h:=by
 have s:=g l N;have G:=g r d;refine ab AA ⟨rfl,bj R H rfl (b7 R H rfl H.Y (rd N) (cK R H.mem (j4 s) (cE R (H.ft _ s) ⟨by refine Z (bb _) ?_;exact L _ N,?_⟩)))⟩;refine bj R H rfl (b7 R H rfl H.Y (rd d) (cK R H.mem (j4 G) (cE R (H.ft _ G) ⟨by refine Z (bb _) ?_;exact L _ d,?_⟩)));by_cases c:(M.mem (M.Y r)).length<(M.mem (M.Y l)).length;·exact ab (a:=true) (congrArg U (decide_eq_true (Z (bb _) (Z (bb _) (M1.mpr c))))) (bW rfl ⟨(by decide:2<=aN),rfl,aX rfl,aX rfl,qM R H (i c) λh' b m e H' f j=>q _ _ _ e H' f (.inr ⟨c,j⟩)⟩)
 ·have c':=Pm.mp c
  exact ab (a:=false) (congrArg U (decide_eq_false (Z (bb _) (Z (bb _) (λk=>c (M1.mp k)))))) (bI rfl (qM R H (J c') λh' b m e H' f j=>q _ _ _ e H' f (.inl ⟨c',j⟩)))
def HV(M:Hs)(l r:Int)(w:Option Int)(m:Hs):Prop:=((M.mem (M.Y l)).length<=(M.mem (M.Y r)).length/\iO M l r w m)\/((M.mem (M.Y r)).length<(M.mem (M.Y l)).length/\iO M r l w m)
structure mU(I:Nat->Nat->Hs->Prop):Prop where
 cQ:∀m k N,I m k N->N.aw.length<=1000/\k<=1000
 nn:∀m k N l r w,I m k N->N.aU=KF->N.aw[k]? =U (l,r,w)->aj l/\aj r
 rn:∀m k N,I m k N->N.aU=KF->∀t,aj t->aj (N.Y t)
 lm:∀m k N,I m k N->N.aU=KF->∀t,aj t->(N.mem (N.Y t)).length<=aN
 same:∀m k N l r w,I m k N->N.aU=KF->N.aw[k]? =U (l,r,w)->N.Y l=N.Y r->∃M,M<m/\I M (k+1) N
 ok:∀m k N l r w,I m k N->N.aU=KF->N.aw[k]? =U (l,r,w)->N.Y l≠N.Y r->((N.mem (N.Y l)).length<=(N.mem (N.Y r)).length->k1 N l r w)/\((N.mem (N.Y r)).length<(N.mem (N.Y l)).length->k1 N r l w)
 step:∀m k N l r w a,I m k N->N.aU=KF->N.aw[k]? =U (l,r,w)->N.Y l≠N.Y r->HV N l r w a->∃M,M<m/\I M (k+1) a
theorem ia(xs:List V)(k:Nat):jt xs (k:Int)=xs[k]? :=by
 unfold jt
 (exact Z (if_pos (Lw _)) (Z (Mn _) rfl))
theorem eD{k:Nat}(h:k<=1000000):fits (k:Int):=⟨Mw (by decide) (Lw _),Mw (MF.mpr h) (by decide)⟩
noncomputable def Io:List St:=match d9.body.drop 1 with
 |.while _ b::_=>b
 |_=>[]
noncomputable def E3(k:Nat)(x y z:Option V):aV:=[U Me,U (.int (k:Nat)),x,y,z]
inductive Kj(I:Nat->Nat->Hs->Prop)(A:AH)(m:Nat)(J:aV)(h:Hp):Prop
 |mk (a:AH) (k:Nat) (N:Hs) (x y z:Option V) (d':J=E3 k x y z) (R:AR h a) (H:ah a N) (F:Fr pL A a) (i:I m k N)
theorem vt{I:Nat->Nat->Hs->Prop}(C:mU I){m:Nat}{P:PS}(R:AR h A)(H:ah A N)(i:I m k N)(c:k<N.aw.length)(E:N.aU=KF)
  (q:∀h' b M f x y z,M<m->AR h' b->ah b f->Fr pL A b->I M (k+1) f->P .next (E3 (k+1) x y z) h'):St.bh G1 (a5 G1 T1 (n+5)) Io (E3 k x y z) P h:=by
 have Q:N.aw[k]? =U (N.aw[k]):=LV c;generalize N.aw[k]=e at Q;obtain⟨l,r,w⟩:=e;have a:=C.nn _ _ _ _ _ _ i E Q;have g:jt (N.aw.map lr) (k:Int)=U (lr (l,r,w)):=by simp only[ia,Mz,Q];rfl
 refine bj R H rfl (jO R H.aw g ⟨rfl,aX rfl,aX rfl,aX rfl,eD (KB (C.cQ _ _ _ i).2 (by decide)),eD (k:=1) (by decide),aX rfl,b7 R H rfl H.Y (rd a.1) (b7 R H rfl H.Y (rd a.2) ?_)⟩);by_cases d:N.Y l=N.Y r;·exact(C.same _ _ _ _ _ _ i E Q d).elim λM w=>oY d (q _ _ _ _ _ _ _ w.1 R H .refl w.2)
 ·have j:=C.ok _ _ _ _ _ _ i E Q d
  exact mx d (bX R H rfl z3 (a3 rfl rfl rfl (join R H a.1 a.2 (C.rn _ _ _ i E) (C.lm _ _ _ i E) j.1 j.2 λs t u o p F J=>(C.step _ _ _ _ _ _ _ i E Q d J).elim λM w=>q _ _ _ _ _ _ _ w.1 o p F w.2)))
theorem GH{I:Nat->Nat->Hs->Prop}(C:mU I){m:Nat}(R:AR h A)(H:ah A M)(i:I m 0 M)(q:∀h' f m k N,AR h' f->ah f (N.cW [])->Fr pL A f->I m k N->(N.aU≠KF\/N.aw.length<=k)->Q .none h'):cw (n+6) "close" [Me] Q h:=by
 refine ab lj ⟨rfl,aX rfl,h9 (Kj I A) ?_ ⟨A,0,M,_,_,_,rfl,R,H,.refl,i⟩⟩;intro m J t K S u;obtain⟨G,k,N,x,y,z,d',r,b,p,g⟩:=S;subst d';have L:(N.aw.map lr).length=N.aw.length:=KE _;refine bj r b rfl (cE r b.aw ⟨Z L (KB (C.cQ _ _ _ g).1 (by decide)),?_⟩);have cY:(N.aU≠KF\/N.aw.length<=k)->newList ([]:List V) (λv h=>bB (ai.bC h ⟨30,0,sN⟩) (BE ⟨30,0,sN⟩ "queue" v (Q .none) h)) t:=λd=>rW (l:=[]) r b (K3 _) λw s j o F=>q _ _ _ _ _ j o (p.trans F) g d;by_cases c:k<N.aw.length
 ·refine ab (a:=true) (congrArg U (decide_eq_true (Z L (M1.mpr c)))) (bW rfl (bj r b (v:=sg N.aU) rfl ?_))
  induction E:N.aU with
  |some l=>exact aS (cY (.inl λe=>al (e.symm.trans E)))
  |none=>exact aS (vt C r b g c E λw s P B x y z lt j o F D=>u _ lt _ _ ⟨s,k+1,B,_,_,_,rfl,j,o,p.trans F,D⟩)
 ·exact ab (a:=false) (congrArg U (decide_eq_false (Z L (λe=>c (M1.mp e))))) (bI rfl (cY (.inr (Pm.mp c))))
theorem Hb{I:Nat->Nat->Hs->Prop}(C:mU I){m:Nat}(R:AR h A)(H:ah A M){r:Int}(t:aj a)(B:aj b)(e:M.aw=[])(i:I m 0 (M.cW [(a,b,U r)]))(q:∀h' g m k N,AR h' g->ah g (N.cW [])->Fr pL A g->I m k N->(N.aU≠KF\/N.aw.length<=k)->Q .none h'):
  cw (n+7) "merge" [Me,.int a,.int b,.int r] Q h:=by
 refine ab xw ⟨rfl,bX R H rfl ct (a1 rfl (eu R H t e λz D j o F=>bX j o rfl ct (a1 rfl (eu j o B e λE G f c u=>bj f c rfl (ab (aq f c.aw) ⟨rfl,(by decide:3<=aN),aq f c.aw,bH f c.aw (by refine Z e ?_;decide) λJ p=>?_⟩)))))⟩;have s:=c.s4 (l:=[(a,b,U r)]) (xs:=M.aw.map lr++[lr (a,b,U r)]) (by refine Z e ?_;rfl);exact bX p s rfl i5 (ax (GH C p s i λK L m k N v w x y d=>q _ _ _ _ _ v w ((F.trans u).trans (.trans (.set rfl) x)) y d))
noncomputable def hG(M:Hs)(a b r:Int):Hs:=(((M.hk (M.Y a) (M.bl (M.Y a)++[(a,b,r)])).hk (M.Y b) (M.bl (M.Y b)++[(a,b,r)]))).bR (M.ak++[.apart (M.Y a) (M.Y b)])
theorem ow(R:AR h A)(H:ah A M)(W:h3 M.up)(N:aj a)(B:aj b)(E:M.aw=[])(C:M.aU=KF)(rt:M.Y a=M.Y b)(mt:n9 M.up a b)(m:M.am.length<=aN)(q:∀h' e l,AR h' e->ah e (M.eb (U l) M.am.length)->Fr pL A e->Q .none h'):
  cw (n+5) "separate" [Me,.int a,.int b,.int r] Q h:=by
 exact ab j' ⟨rfl,bX R H rfl ct (a1 rfl (eu R H N E λu w f g F=>bX f g rfl ct (a1 rfl (eu f g B E λx y d c i=>bj d c (v:=sg M.aU) rfl (Z C (aS (b7 d c rfl c.Y (rd N) (b7 d c rfl c.Y (rd B) ⟨(by decide:2<=aN),rfl,aX rfl,aX rfl,j9 rt (bX d c rfl gs (bX d c rfl fE (bX d c rfl du (a2 rfl rfl (hZ d c W N B rt mt λz D l j k o G L=>a1 rfl (iW (KU L (by decide)) (ax (j2 j k (KB (kW _ _) (KB (Ld L) (by decide))) m λI J p s t=>⟨_,_,.refl,q _ _ _ p s ((F.trans i).trans ((o.bU pQ).trans t))⟩))))))))⟩))))))))⟩
theorem AU(R:AR h A)(H:ah A M)(S:mD M)(N:aj a)(B:aj b)(E:M.aw=[])(I:M.aU=KF)(rt:M.Y a≠M.Y b)(L:(M.bl (M.Y a)).length<aN)(J:(M.bl (M.Y b)).length<aN)(lt:M.ak.length+1+(M.bK (M.Y a)).length<=aN)(K:M.a4.length+(M.bK (M.Y a)).length<=aN)
  (W:∀w∈M.bK (M.Y a),∃s,M.aC w=U s)(q:∀h' m u,AR h' m->ah m u->Fr pL A m->iT (hG M a b r) (M.bK (M.Y a)) u->Q .none h'):
  cw (n+5) "separate" [Me,.int a,.int b,.int r] Q h:=by
 have e:=S.Y a N;have x:=S.Y b B;refine ab j' ⟨rfl,bX R H rfl ct (a1 rfl (eu R H N E λh1 A1 y z T=>bX y z rfl ct (a1 rfl (eu y z B E λh2 A2 d c V=>bj d c (v:=sg M.aU) rfl (Z I (aS (b7 d c rfl c.Y (rd N) (b7 d c rfl c.Y (rd B) ⟨(by decide:2<=aN),rfl,aX rfl,aX rfl,ju rt (b7 d c rfl c.bl (j4 e) (ab (aq d (c.ec _ e)) ⟨rfl,(by decide:3<=aN),aq d (c.ec _ e),bH d (c.ec _ e) (by rw[KE];exact L) λh3 g=>?_⟩))⟩))))))))⟩;have i:=c.m' (t:=M.Y a) (l:=M.bl (M.Y a)++[(a,b,r)]) (xs:=Nw ij (M.bl (M.Y a))++[ij (a,b,r)]) (by simp only[La];rfl);have X:(M.hk (M.Y a) (M.bl (M.Y a)++[(a,b,r)])).bl (M.Y b)=M.bl (M.Y b):=ai.M.aI _ _ (Qg rt);have o:=i.ec _ x;rw[X] at o;refine b7 g i rfl i.bl (j4 x) (ab (aq g o) ⟨rfl,(by decide:3<=aN),aq g o,bH g o (by rw[KE];exact J) λh4 j=>?_⟩);have f:=i.m' (t:=M.Y b) (l:=M.bl (M.Y b)++[(a,b,r)]) (xs:=Nw ij (M.bl (M.Y b))++[ij (a,b,r)]) (by refine Z La ?_;rfl);refine bj j f rfl (ab (aq j f.ak) ⟨rfl,(by decide:3<=aN),aq j f.ak,bH j f.ak (by rw[KE];exact K6 (LU _) (KB (Lf _ _) lt)) λh5 D=>?_⟩);have F:ah _ (hG M a b r):=f.c7 (l:=M.ak++[e2.apart (M.Y a) (M.Y b)]) (db M.ak (e2.apart (M.Y a) (M.Y b)));refine bX D F rfl iF (a1 rfl (m1 D F ⟨S.Y,λt nt p P=>?_,S.aC⟩ e W K (Z (be M.ak) lt) λh6 A6 M6 R6 H6 T6 F6=>q _ _ _ R6 H6 ((T.trans V).trans (.trans (.trans (.set rfl) (.set rfl)) (.trans (.set rfl) (F6.bU FF)))) T6))
 ·have key:p∈M.bl t\/p=(a,b,r):=by
   have P:p∈aH (aH M.bl (M.Y a) (M.bl (M.Y a)++[(a,b,r)])) (M.Y b) (M.bl (M.Y b)++[(a,b,r)]) t:=P;by_cases C:t=M.Y b
   ·subst C;rw[ai.M.aP] at P
    exact(KW.mp P).imp id KG.mp
   ·rw[ai.M.aI _ _ C] at P
    by_cases G:t=M.Y a
    ·clear C;subst G;rw[ai.M.aP] at P
     exact(KW.mp P).imp id KG.mp
    ·rw[ai.M.aI _ _ G] at P;exact .inl P
  clear P;rcases key with k |rfl
  ·exact S.bl t nt p k
  ·exact⟨N,B⟩
open ai.M (ev)
def gG(M m:Hs):Prop:=∃es,m.ak=M.ak++es/\iq es m (M.ov m)
theorem iq.ov{S:Hs}(X:Hs)(b:iq es M S):iq es (M.ov X) (S.ov X):=by
 induction b with
 |nil=>exact .nil
 |ls u _ i=>exact .ls (u.ov X) i
theorem iq.Kn{e E:List e2}{X y:Hs}(b:iq E M X):iq e X y->iq (e++E) M y:=by
 induction b with
 |nil=>intro c;rw[K8];exact c
 |ls u _ i=>intro c;exact hR (K7 _ _ _) (.ls u (i c))
theorem iq.dZ{e:e2}{S:Hs}(u:fw e M S):iq [e] M S:=.ls (es:=[]) u .nil
theorem gG.trans{c m:Hs}(a:gG M c)(b:gG c m):gG M m:=by exact aD a λe t B=>aD b λE T d=>⟨e++E,by simp only[T,t,K7],d.Kn (B.ov m)⟩
theorem gG.HF{m:Hs}(t:m.ak=M.ak)(e:M.ov m=m):gG M m:=⟨[],Z t (Z (K8 _) rfl),Z e .nil⟩
theorem gG.refl:gG M M:=.HF rfl rfl
theorem JU(x:ev up l u):∀{L v},ev up L v->L.head?=l.head?->u=v:=by
 induction x with
 |dZ e=>
  intro L v y h;induction y with
  |dZ=>rfl
  |cons E _=>(replace h:=KC h;subst h);replace E:=e▸E;exact al E
 |cons e x i=>
  intro L v y h;induction y with
  |dZ E=>(replace h:=KC h;subst h);replace E:=e▸E;exact al E.symm
  |cons E y=>
   (injection h with h;subst h)
   replace E:=e▸E;(cases KC E);exact Z (i y rfl) rfl
theorem gG.Kp(W:h3 M.up){l r top:Int}{w:Option Int}{L:List eN}(P:cn M.up l L top)(F:∃E,ai.M.b8 M.up E):gG M (cp M l r w L top):=by
 have T:=P.turn W.ac;have b:aH (aH (eR L (dG L M.up)) l (U (r,w))) l none=eR L (dG L M.up):=by simp only[ai.M.e7,<-(T.head W.ac rfl:eR L (dG L M.up) l=none),ai.M.dB]
 obtain⟨E,F⟩:=F;have f:=T.y0 F;refine g9 (cn.exists (f.1 top)) λa R c=>?_;have u:eR a (dG a (eR L (dG L M.up)))=M.up:=by
  refine JU (c.turn f.1) (T.IT W.ac) ?_;have:(l::L.map (·.2.1)).getLast?=U top:=by refine hR P.lb ?_;simp
  refine Z (List.head?_reverse) (Z this ?_);rfl
 refine⟨[.no l top],rfl,.dZ ?_⟩;have n:∀x p,eR L (dG L M.up) x=U p->aj x/\aj p.1:=by intro x p e;obtain⟨y,v⟩:=p;exact KS (f.2.1 _ _ _ e) (λm=>KS (F.2.2 _ _ _ m) (λq=>W.nn _ _ q) λq=>(W.nn _ _ q).symm) λm=>KS (F.2.2 _ _ _ m) (λq=>(W.nn _ _ q).symm) λq=>W.nn _ _ q
 have d:(cp M l r w L top).BG (eR a (dG a (aH (cp M l r w L top).up l none)))=M.ov (cp M l r w L top):=by have:aH (cp M l r w L top).up l none=eR L (dG L M.up):=b;refine Z this (Z u ?_);rfl
 exact hR d (fw.no (M:=cp M l r w L top) (l:=l) (top:=top) (p:=(r,w)) (L:=a) (r:=R) (ai.M.aP _ _ _) (((Z b f.1):il (aH (aH _ l _) l none))) (by refine(?_ :∀x p,aH (aH _ l _) l none x=U p->_);refine Z b ?_;exact n) (((Z b c):cn (aH (aH _ l _) l none) _ _ _)))
set_option tactic.hygienic true in
theorem gG.J3{N:Hs}{t u:Int}(n:aj (N.Y u)):gG N (cL N t u):=by
 unfold ai.L1.cL
 split
 ·rename_i c
  refine⟨[.jL (eP N u) t],rfl,.dZ ?_⟩
  have e:((N.bR (N.ak++[.jL (eP N u) t])).hu (aH N.bu (eP N u) none)).hu (aH (aH N.bu (eP N u) none) (eP N u) (U t))=N.ov ((N.bR (N.ak++[.jL (eP N u) t])).hu (aH N.bu (eP N u) none)):=by refine Z (by simp only[ai.M.e7,<-c,ai.M.dB]:aH (aH N.bu (eP N u) none) (eP N u) (U t)=N.bu) ?_;rfl
  simp only[<-e];exact(fw.jL (M:=(N.bR (N.ak++[.jL (eP N u) t])).hu (aH N.bu (eP N u) none)) (m:=eP N u) (t:=t) (rJ n))
 ·exact .refl
set_option tactic.hygienic true in
theorem gG.fk{t u:Int}:gG N (cx N t u):=by
 unfold ai.L1.cx
 split
 ·rename_i c
  refine⟨[.g6 (eP N u)],rfl,.dZ ?_⟩
  have e:((N.bR (N.ak++[.g6 (eP N u)])).hu (aH N.bu (eP N u) (U t))).hu (aH (aH N.bu (eP N u) (U t)) (eP N u) none)=N.ov ((N.bR (N.ak++[.g6 (eP N u)])).hu (aH N.bu (eP N u) (U t))):=by refine Z (by simp only[ai.M.e7,<-c,ai.M.dB]:aH (aH N.bu (eP N u) (U t)) (eP N u) none=N.bu) ?_;rfl
  exact hR e (fw.g6 (M:=(N.bR (N.ak++[.g6 (eP N u)])).hu (aH N.bu (eP N u) (U t))) (m:=eP N u) (t:=t) (ai.M.aP _ _ _))
 ·split
  ·exact .refl
  ·exact .HF rfl rfl
theorem Hs.BL:∀{a b:Hs},a.Y=b.Y->a.mem=b.mem->a.aM=b.aM->a.val=b.val->a.bl=b.bl->a.bK=b.bK->a.up=b.up->a.bu=b.bu->a.aC=b.aC->a.a7=b.a7->a.a4=b.a4->a.aw=b.aw->a.aU=b.aU->a.j3=b.j3->a.ak=b.ak->a.am=b.am->a.cd=b.cd->a=b:=by intro a b j k l m n o p q r h H c d e f g i;cases a;cases b;dsimp only at*;subst j k l m n o p q r h H c d e f g i;rfl
theorem iN{a b:Type}[DecidableEq a](f:a->b)(k:a)(v:b):aH (aH f k v) k (f k)=f:=by simp only[ai.M.e7,ai.M.dB]
theorem tE{f:Int->Int}{l:List Int}{s:Int}(h:∀x∈l,f x=s):ey l s (ey l g f)=f:=by
 funext x;rw[jc,jc];split;·exact(h x ‹_›).symm
 ·rfl
theorem gG.JX{N:Hs}{s g:Int}(f:aj s)(G:aj g)(n:s≠g)(S:∀x∈N.mem s,aj x/\N.Y x=s)(L:(N.mem g).length<=aN)(h:(N.aM g).length<=aN)(i:(N.bl g).length<=aN)(j:(N.bK g).length<=aN):gG N (dO (dh (c9 N s g) s g) s g):=by
 have e:aH N.mem g (N.mem g++N.mem s) s=N.mem s:=ai.M.aI _ _ n;have tr:(dO (dh (c9 N s g) s g) s g).ak=N.ak++[.join s g (N.mem g).length (N.aM g).length (N.bl g).length (N.bK g).length (N.val g)]:=by refine Z (ga _ _ _) ?_;rfl
 refine⟨_,tr,.dZ ?_⟩;have E:aH (dO (dh (c9 N s g) s g) s g).val g (N.val g)=N.val:=by
  unfold dO;split;·exact(ai.M.e7 N.val g _ _).trans (ai.M.dB _ _)
  ·exact ai.M.dB _ _
 have u:=fw.join (M:=dO (dh (c9 N s g) s g) s g) (s:=s) (l:=g) (a:=(N.mem g).length) (b:=(N.aM g).length) (c:=(N.bl g).length) (d:=(N.bK g).length) (v:=N.val g) f G n
  (by refine Z (ga _ _ _) ?_;show∀t∈aH N.mem g (N.mem g++N.mem s) s,aj t;exact Z e λt m=>(S t m).1) L h i j;have k:BA (dO (dh (c9 N s g) s g) s g) s g (N.mem g).length (N.aM g).length (N.bl g).length (N.bK g).length (N.val g)=N.ov (dO (dh (c9 N s g) s g) s g):=by
  have H:ey (aH N.mem g (N.mem g++N.mem s) s) s (ey (N.mem s) g N.Y)=N.Y:=Z e (tE λx m=>(S x m).2);exact Z (ga _ _ _) (Hs.BL H (by simp only[ai.M.aP,OS,iN]:aH (aH N.mem g (N.mem g++N.mem s)) g ((aH N.mem g (N.mem g++N.mem s) g).take (N.mem g).length)=N.mem) (by simp only[ai.M.aP,OS,iN]:aH (aH N.aM g (N.aM g++N.aM s)) g ((aH N.aM g (N.aM g++N.aM s) g).take (N.aM g).length)=N.aM) E (by simp only[ai.M.aP,OS,iN]:aH (aH N.bl g (N.bl g++N.bl s)) g ((aH N.bl g (N.bl g++N.bl s) g).take (N.bl g).length)=N.bl) (by simp only[ai.M.aP,OS,iN]:aH (aH N.bK g (N.bK g++N.bK s)) g ((aH N.bK g (N.bK g++N.bK s) g).take (N.bK g).length)=N.bK) rfl rfl rfl rfl rfl rfl rfl rfl rfl rfl rfl)
 exact hR k u
theorem jz(N:Hs)(t:Int):(bg N t).Y=N.Y:=by
 unfold bg;split;·exact rk _ _ _
 ·rfl
theorem rQ(N:Hs)(t:Int):(ba N t).Y=N.Y:=by
 unfold ba;split;·exact lF _ _ _
 ·rfl
theorem gG.HH:∀(l:List Int) {N:Hs},(∀t,aj t->aj (N.Y t))->gG N (aT N l)
 |[],N,_=>.refl
 |t::l,N,r=>by
  have a:gG N (bg N t):=by
   unfold bg;split;·exact .J3 (r _ (aZ ‹_›).2)
   ·exact .refl
  exact a.trans (gG.HH l (Z (jz _ _) r))
theorem gG.DH:∀(l:List Int) {N:Hs},gG N (br N l)
 |[],N=>.refl
 |t::l,N=>by
  have a:gG N (ba N t):=by
   unfold ba;split;·exact .fk
   ·exact .refl
  exact a.trans (gG.DH l)
theorem gG.jV{n:Hs}{t:Int}(T:lu N t n):gG N n:=by
 have key:∀c,N.a7 t=none->gG N (d2 N t c):=by intro c e;exact⟨[.a7 t],rfl,.dZ (hR (Hs.BL rfl rfl rfl rfl rfl rfl rfl rfl rfl (by simp only[ai.M.e7,<-e,ai.M.dB]:aH (aH N.a7 t (U c)) t none=N.a7) rfl rfl rfl rfl rfl rfl rfl:(d2 N t c).qe (aH (d2 N t c).a7 t none)=N.ov (d2 N t c)) (fw.a7 (M:=d2 N t c) (t:=t) (c:=c) (ai.M.aP _ _ _)))⟩
 induction T with
 |u4=>exact .refl
 |eq e _ _=>exact key _ e
 |ne e _ _ _=>exact key _ e
theorem gG.AP{n:Hs}{l:List Int}(T:iT N l n):gG N n:=by
 induction T with
 |nil=>exact .refl
 |cons t _ i=>exact(gG.jV t).trans i
theorem gG.aU{c:Option (List Int)}{k:Nat}:gG N (N.eb c k):=.HF rfl rfl
theorem gG.aw{l:List (Int×Int×Option Int)}:gG N (N.cW l):=.HF rfl rfl
theorem gG.J4{N:Hs}{a b r:Int}(A:aj (N.Y a))(B:aj (N.Y b))(n:N.Y a≠N.Y b)(l:(N.bl (N.Y a)).length<aN)(L:(N.bl (N.Y b)).length<aN):gG N (hG N a b r):=by
 refine⟨[.apart (N.Y a) (N.Y b)],rfl,.dZ ?_⟩;have e:aH (aH (aH (aH N.bl (N.Y a) (N.bl (N.Y a)++[(a,b,r)])) (N.Y b) (N.bl (N.Y b)++[(a,b,r)])) (N.Y a) (N.bl (N.Y a))) (N.Y b) (N.bl (N.Y b))=N.bl:=by
  (refine Z (ai.M.iJ _ _ _ n.symm) ?_;rw[ai.M.e7,iN,ai.M.dB])
 exact hR (Hs.BL rfl rfl rfl rfl e rfl rfl rfl rfl rfl rfl rfl rfl rfl rfl rfl rfl:((hG N a b r).hk (N.Y a) (N.bl (N.Y a))).hk (N.Y b) (N.bl (N.Y b))=N.ov (hG N a b r)) (fw.apart (M:=hG N a b r) A B ((ai.M.aI _ _ n).trans (ai.M.aP _ _ _):(hG N a b r).bl (N.Y a)=N.bl (N.Y a)++[(a,b,r)]) ((ai.M.aI _ _ n.symm).trans (ai.M.aP _ _ _):((hG N a b r).hk (N.Y a) (N.bl (N.Y a))).bl (N.Y b)=N.bl (N.Y b)++[(a,b,r)]) l L)
theorem gG.b6{l r top:Int}{w:Option Int}{L:List eN}(W:h3 M.up)(P:cn M.up l L top)(F:∃E,ai.M.b8 M.up E)(R:∀t,aj t->aj (M.Y t))(n:aj l)(N:aj r)(a:M.Y l≠M.Y r)(m:∀x∈M.mem (M.Y l),aj x/\M.Y x=M.Y l)
  (b:(M.mem (M.Y r)).length<=aN)(c:(M.aM (M.Y r)).length<=aN)(d:(M.bl (M.Y r)).length<=aN)(f:(M.bK (M.Y r)).length<=aN):gG M (b6 M l r w L top):=by
 have g:(aT (cp M l r w L top) (M.aM (M.Y l))).Y=M.Y/\(aT (cp M l r w L top) (M.aM (M.Y l))).mem=M.mem/\(aT (cp M l r w L top) (M.aM (M.Y l))).aM=M.aM/\(aT (cp M l r w L top) (M.aM (M.Y l))).bl=M.bl/\(aT (cp M l r w L top) (M.aM (M.Y l))).bK=M.bK:=by exact Z (e' (M.aM (M.Y l)) (cp M l r w L top)) ⟨rfl,rfl,rfl,rfl,rfl⟩
 exact pc g λh e i j k=>(((gG.Kp W P F).trans (.HH _ R):gG M (aT (cp M l r w L top) (M.aM (M.Y l)))).trans (gG.JX (R _ n) (R _ N) a (Z h (Z e m)) (Z e b) (Z i c) (Z j (d)) (Z k f))).trans (.DH _)
theorem uk(N:Hs)(u:Int):eP N u=[0,N.Y u]:=rfl
set_option tactic.hygienic true in
theorem sX{s:Int}:∀(l:List Int) {N:Hs},(∀t∈l,∃u,ai.M.arg t=U u/\N.Y u=s)->(∀m,m≠[0,s]->(aT N l).bu m=N.bu m)/\∀o,(aT N l).bu [0,s]=U o->o∉l/\N.bu [0,s]=U o
 |[],N,_=>⟨λ_ _=>rfl,λo e=>⟨MH,e⟩⟩
 |t::l,N,h=>by
  refine aD (h t KJ) λu H r=>?_
  have E:bg N t=cL N t u:=by unfold bg;exact Z H rfl
  refine ay (sX l (N:=bg N t) λx m=>Z (jz N t) (h x (KP _ m))) λa b=>?_
  have S:(∀m,m≠[0,s]->(bg N t).bu m=N.bu m)/\∀o,(bg N t).bu [0,s]=U o->o≠t/\N.bu [0,s]=U o:=by
   refine Z E ?_
   unfold cL
   (rw[uk];refine Z r ?_)
   split
   ·exact⟨λm n=>ai.M.aI _ _ n,λo e=>by have e:aH N.bu [0,s] KF [0,s]=U o:=e;rw[ai.M.aP] at e;exact al e⟩
   ·rename_i c
    exact⟨λ_ _=>rfl,λo e=>⟨λq=>c (hR q e),e⟩⟩
  exact⟨λm n=>(a m n).trans (S.1 m n),λo e=>ay (b o e) λB d=>ay (S.2 o d) λC f=>⟨λm=>(KM.mp m).elim C B,f⟩⟩
inductive Hi(N J:Hs)(l:List Int)(g:Int):Prop
 |mk (a:∀m,m≠[0,g]->J.bu m=N.bu m) (b:∀o,J.bu [0,g]=U o->N.bu [0,g]=U o\/o∈l) (c:∀o,N.bu [0,g]=U o->J.bu [0,g]=U o) (q:List (Int×Int×Option Int)) (d1:J.aw=N.aw++q) (d:q.length<=l.length)
   (D:∀e∈q,∃t o,e=(t,o,KF)/\t∈l/\J.bu [0,g]=U o) (e:∀t∈l,∃o,J.bu [0,g]=U o/\(N.Y o=N.Y t\/(t,o,KF)∈q))
theorem qo{g:Int}:∀(l:List Int) {N:Hs},(∀t∈l,∃u,ai.M.arg t=U u/\N.Y u=g)->Hi N (br N l) l g
 |[],N,_=>⟨λ_ _=>rfl,λo e=>.inl e,λo e=>e,[],(K8 _).symm,KX _,λ_ m=>(nomatch m),λ_ m=>(nomatch m)⟩
 |t::l,N,h=>by
  refine aD (h t KJ) λu p R=>?_;have d:ba N t=cx N t u:=by unfold ba;exact Z p rfl
  have k:=rQ N t;obtain⟨a,b,c,q,d1,D,j,e⟩:=qo l (N:=ba N t) λx m=>Z k (h x (KP _ m));have L:br N (t::l)=br (ba N t) l:=rfl;replace e:=k▸e;refine Z L ?_;induction H:N.bu [0,g] with
  |none=>
   have E:ba N t=(N.bR (N.ak++[.g6 [0,g]])).hu (aH N.bu [0,g] (U t)):=by refine Z d ?_;unfold cx;simp only[uk,R,H]
   have s:(ba N t).bu [0,g]=U t:=Z E (ai.M.aP _ _ _);have T:=c t s;have Q:(ba N t).aw=N.aw:=by refine Z E ?_;rfl
   rw[Q] at d1;refine⟨λm n=>(a m n).trans (Z E (ai.M.aI _ _ n)),λo f=>.inr ?_,λo f=>(by rw[H] at f;exact al f),q,d1,Lp D,λx m=>cR (j x m) λy o d E i=>⟨y,o,d,KP _ E,i⟩,λx m=>?_⟩;·rw[T] at f;(replace f:=KC f;subst f);exact KJ
   ·rcases KM.mp m with rfl |m
    ·exact⟨x,T,.inl rfl⟩
    ·exact e x m
  |some o=>
   have E:ba N t=if N.Y o=N.Y t then N else N.cW (N.aw++[(t,o,KF)]):=by refine Z d ?_;unfold cx;simp only[uk,R,H]
   have v:(ba N t).bu=N.bu:=by refine Z E ?_;split<;>rfl
   rw[v] at a b c;have T:=c o H;have B:∀x,(br (ba N t) l).bu [0,g]=U x->N.bu [0,g]=U x\/x∈t::l:=λx ex=>(b x ex).imp id (KP _);by_cases r:N.Y o=N.Y t
   ·rw[if_pos r] at E
    have Q:(ba N t).aw=N.aw:=Z E rfl;rw[Q] at d1;refine⟨a,B,c,q,d1,Lp D,λx m=>cR (j x m) λy o d E i=>⟨y,o,d,KP _ E,i⟩,λx m=>?_⟩
    ·rcases KM.mp m with rfl |m
     ·exact⟨o,T,.inl r⟩
     ·exact e x m
   ·rw[if_neg r] at E
    have Q:(ba N t).aw=N.aw++[(t,o,KF)]:=by refine Z E ?_;rfl
    rw[Q,K7] at d1;refine⟨a,B,c,_,d1,Ld D,λx m=>?_,λx m=>?_⟩
    ·refine KS (KM.mp m) (λrfl=>⟨t,o,rfl,KJ,T⟩) λm=>?_
     ·exact cR (j x m) λy o d E i=>⟨y,o,d,KP _ E,i⟩
    ·rcases KM.mp m with rfl |m
     ·exact⟨o,T,.inr KJ⟩
     ·exact aD (e x m) λo w z=>⟨o,w,z.imp id (KP _)⟩
theorem q3(N:Hs)(t:Int):ba N t={N with ak:=(ba N t).ak,bu:=(ba N t).bu,aw:=(ba N t).aw}:=by
 unfold ba;split
 ·unfold cx
  split;·rfl
  ·split<;>rfl
 ·rfl
theorem kz:∀(l:List Int) (N:Hs),br N l={N with ak:=(br N l).ak,bu:=(br N l).bu,aw:=(br N l).aw}
 |[],N=>rfl
 |t::l,N=>by refine((Z (kz l (ba N t)) ?_):br (ba N t) l={N with ak:=(br (ba N t) l).ak,bu:=(br (ba N t) l).bu,aw:=(br (ba N t) l).aw});dsimp only;exact Z (q3 N t) rfl
theorem tF:∀(l:List Int) (N:Hs),(aT N l).ak.length<=N.ak.length+l.length
 |[],N=>KX _
 |t::l,N=>by
  have a:=tF l (bg N t);have b:(bg N t).ak.length<=N.ak.length+1:=by
   unfold bg;split;·exact l' _ _ _
   ·exact Lv _
  simp only[Lr];exact((bM (lP _ _ _ _) 0x711139813719a13a1138 rfl a b):(aT (bg N t) l).ak.length<=_)
theorem pO:∀(l:List Int) (N:Hs),(br N l).ak.length<=N.ak.length+l.length
 |[],N=>KX _
 |t::l,N=>by
  have a:=pO l (ba N t);have b:(ba N t).ak.length<=N.ak.length+1:=by
   unfold ba;split;·exact(og _ _ _).1
   ·exact Lv _
  simp only[Lr];exact((bM (lP _ _ _ _) 0x711139813719a13a1138 rfl a b):(br (ba N t) l).ak.length<=_)
structure JF(M J:Hs)(l r:Int)(w:Option Int)(L:List eN):Prop where
 Y:∀x,J.Y x=if x∈M.mem (M.Y l) then M.Y r else M.Y x
 mem:J.mem=aH M.mem (M.Y r) (M.mem (M.Y r)++M.mem (M.Y l))
 aM:J.aM=aH M.aM (M.Y r) (M.aM (M.Y r)++M.aM (M.Y l))
 bl:J.bl=aH M.bl (M.Y r) (M.bl (M.Y r)++M.bl (M.Y l))
 bK:J.bK=aH M.bK (M.Y r) (M.bK (M.Y r)++M.bK (M.Y l))
 val:J.val=if M.val (M.Y r)=0 then aH M.val (M.Y r) (M.val (M.Y l)) else M.val
 up:J.up=aH (eR L (dG L M.up)) l (U (r,w))
 b5:J.aC=M.aC/\J.a7=M.a7/\J.a4=M.a4/\J.aU=M.aU/\J.am=M.am/\J.j3=M.j3/\J.cd=M.cd
 t1:∀m,m≠[0,M.Y l]->m≠[0,M.Y r]->J.bu m=M.bu m
 t2:∀o,J.bu [0,M.Y l]=U o->o∉M.aM (M.Y l)/\M.bu [0,M.Y l]=U o
 t3:∀o,J.bu [0,M.Y r]=U o->M.bu [0,M.Y r]=U o\/o∈M.aM (M.Y l)
 t4:∀o,M.bu [0,M.Y r]=U o->J.bu [0,M.Y r]=U o
 q:∃q,J.aw=M.aw++q/\q.length<=(M.aM (M.Y l)).length/\(∀e∈q,∃t o,e=(t,o,KF)/\t∈M.aM (M.Y l)/\J.bu [0,M.Y r]=U o)/\∀t∈M.aM (M.Y l),∃o,J.bu [0,M.Y r]=U o/\(J.Y o=J.Y t\/(t,o,KF)∈q)
 tr:J.ak.length<=M.ak.length+2+2*(M.aM (M.Y l)).length
theorem JF.of{l r top:Int}{w:Option Int}{L:List eN}(G:M.Y l≠M.Y r)(y:∀t∈M.aM (M.Y l),∃u,ai.M.arg t=U u/\M.Y u=M.Y l/\u∈M.mem (M.Y l)):JF M (b6 M l r w L top) l r w L:=by
 have n:=e' (M.aM (M.Y l)) (cp M l r w L top);have i:=sX (s:=M.Y l) (M.aM (M.Y l)) (N:=cp M l r w L top) λt m=>by exact gc (y t m) λu a b _=>⟨u,a,b⟩
 have z:=tF (M.aM (M.Y l)) (cp M l r w L top);have I:(cp M l r w L top).ak.length=M.ak.length+1:=be _;refine(?_ :JF M (br (dO (dh (c9 (aT (cp M l r w L top) (M.aM (M.Y l))) (M.Y l) (M.Y r)) (M.Y l) (M.Y r)) (M.Y l) (M.Y r)) (M.aM (M.Y l))) l r w L);generalize aT (cp M l r w L top) (M.aM (M.Y l))=N at n i z⊢;have P:N.Y=M.Y:=(congrArg Hs.Y n:);have F:N.mem=M.mem:=(congrArg Hs.mem n:);have E:=ga (dh (c9 N (M.Y l) (M.Y r)) (M.Y l) (M.Y r)) (M.Y l) (M.Y r);have V:(dO (dh (c9 N (M.Y l) (M.Y r)) (M.Y l) (M.Y r)) (M.Y l) (M.Y r)).val=if M.val (M.Y r)=0 then aH M.val (M.Y r) (M.val (M.Y l)) else M.val:=by refine hR ((congrArg Hs.val n:):N.val=M.val) (?_ :(if N.val (M.Y r)=0 then _ else _:Hs).val=_);split<;>rfl
 generalize dO (dh (c9 N (M.Y l) (M.Y r)) (M.Y l) (M.Y r)) (M.Y l) (M.Y r)=K at E V⊢;have A:∀x,K.Y x=if x∈M.mem (M.Y l) then M.Y r else M.Y x:=λx=>by refine(congrFun (congrArg Hs.Y E:) x).trans ((jc (M.Y r) x (N.mem (M.Y l)) N.Y).trans ?_);rw[P,F]
 have k:K.bu=N.bu:=(congrArg Hs.bu E:);have v:K.ak.length=N.ak.length+1:=(congrArg (λH:Hs=>H.ak.length) E).trans (be _);have B:=qo (g:=M.Y r) (M.aM (M.Y l)) (N:=K) λt m=>by refine gc (y t m) λu a b c=>?_;exact⟨u,a,by(rw[A];exact Z (if_pos c) rfl)⟩
 have C:=pO (M.aM (M.Y l)) K;have j:=kz (M.aM (M.Y l)) K;generalize br K (M.aM (M.Y l))=J at B C j⊢;have D:J.Y=K.Y:=(congrArg Hs.Y j:);obtain⟨a,b,c,q,d1,Q,R,e⟩:=B;have d:([0,M.Y l]:List Int)≠[0,M.Y r]:=λq=>G (by injection q with _ q;injection q);rw[((congrArg Hs.aw E:).trans ((congrArg Hs.aw n:):N.aw=M.aw):K.aw=M.aw)] at d1;have h:∀{S:Type} (p:Hs->S),p K=p N->p N=p M->p J=p K->p J=p M:=λp a b c=>c.trans (a.trans b);refine⟨λx=>by refine Z D ?_;exact A x,(congrArg Hs.mem j:).trans ((congrArg Hs.mem E:).trans ?_),(congrArg Hs.aM j:).trans ((congrArg Hs.aM E:).trans ?_),(congrArg Hs.bl j:).trans ((congrArg Hs.bl E:).trans ?_),(congrArg Hs.bK j:).trans ((congrArg Hs.bK E:).trans ?_),(congrArg Hs.val j:).trans V,(congrArg Hs.up j:).trans ((congrArg Hs.up E:).trans (congrArg Hs.up n:)),
  ⟨h _ (congrArg Hs.aC E:) (congrArg Hs.aC n:) (congrArg Hs.aC j:),h _ (congrArg Hs.a7 E:) (congrArg Hs.a7 n:) (congrArg Hs.a7 j:),h _ (congrArg Hs.a4 E:) (congrArg Hs.a4 n:) (congrArg Hs.a4 j:),h _ (congrArg Hs.aU E:) (congrArg Hs.aU n:) (congrArg Hs.aU j:),h _ (congrArg Hs.am E:) (congrArg Hs.am n:) (congrArg Hs.am j:),h _ (congrArg Hs.j3 E:) (congrArg Hs.j3 n:) (congrArg Hs.j3 j:),h _ (congrArg Hs.cd E:) (congrArg Hs.cd n:) (congrArg Hs.cd j:)⟩,
  λm T W=>?_,λo f=>?_,λo f=>?_,λo f=>?_,⟨q,d1,Q,R,by refine Z D ?_;exact e⟩,bM (Ki _ _ _ _ _ _) 0x712923123813a113813b19a13c113b13719c rfl (KQ I) z (KQ v) C⟩;·refine hR F ?_;rfl
 ·refine hR ((congrArg Hs.aM n:):N.aM=M.aM) ?_;rfl
 ·refine hR ((congrArg Hs.bl n:):N.bl=M.bl) ?_;rfl
 ·refine hR ((congrArg Hs.bK n:):N.bK=M.bK) ?_;rfl
 ·exact Z (a m W) (Z k (i.1 m T))
 ·rw[a _ d,k] at f;exact i.2 o f
 ·have:=b o f
  rw[k,i.1 _ d.symm] at this;exact this
 ·exact c o (Z k (Z (i.1 _ d.symm) f))
open ai.M (ci cf Cl dR b8 qC lH)
noncomputable abbrev ta:=ai.M.arg
structure bm where
 jj:Bool
 x:Int
 y:Int
 m:Int
def zQ(F:List bm)(m x y:Int):Prop:=(⟨true,x,y,m⟩:bm)∈F\/(⟨true,y,x,m⟩:bm)∈F
def sA(F:List bm)(m x y:Int):Prop:=(⟨false,x,y,m⟩:bm)∈F
def num(x:Int):Prop:=x=7\/x=8
theorem ce(h:num x):aj x:=by rcases h with rfl |rfl<;>decide
noncomputable def sm(f:Int->Nat):List Int->Nat
 |[]=>0
 |t::l=>f t+sm f l
theorem iy{f g:Int->Nat}:∀{l:List Int},(∀t∈l,f t=g t)->sm f l=sm g l
 |[],_=>rfl
 |t::l,h=>by exact((Z (h t KJ) (Z (iy λx m=>h x (KP _ m)) rfl)):f t+sm f l=g t+sm g l)
theorem Dx{f:Int->Nat}{t:Int}:∀{l:List Int},t∈l->f t<=sm f l
 |a::l,m=>by
  refine(?_ :f t<=f a+sm f l);rcases KM.mp m with rfl |m
  ·exact Lf _ _
  ·exact KB (Dx m) (M3 _ _)
theorem qR{h:Int->Nat}{s:Int}:∀{l:List Int},l.Nodup->sm (λt=>if t=s then 0 else h t) l+(if s∈l then h s else 0)=sm h l
 |[],_=>rfl
 |a::l,n=>by
  have n:=K9.mp n;have i:=qR (h:=h) (s:=s) n.2;refine(?_ :(if a=s then 0 else h a)+sm _ l+(if s∈a::l then h s else 0)=h a+sm h l);by_cases c:a=s
  ·subst c
   refine Z (if_pos rfl) (Z (if_pos KJ) ?_);rw[if_neg n.1] at i;exact L2 (bM (ip _ _ _) 0x1817031981310379 rfl (KQ i)) (bM (ip _ _ _) 0x1871719031381039 rfl (KQ i.symm))
  ·refine Z (if_neg c) ?_
   simp only[(propext ⟨λm=>(KM.mp m).elim (λe=>(c e.symm).elim) id,KP _⟩:(s∈a::l)=(s∈l))];exact L2 (bM (lP _ _ _ _) 0x191871a713198a rfl (KQ i)) (bM (lP _ _ _ _) 0x1871a1971381a9 rfl (KQ i.symm))
theorem nT{h:Int->Nat}{g:Int}{d:Nat}:∀{l:List Int},l.Nodup->sm (λt=>if t=g then h t+d else h t) l=sm h l+(if g∈l then d else 0)
 |[],_=>rfl
 |a::l,n=>by
  have n:=K9.mp n;have i:=nT (h:=h) (g:=g) (d:=d) n.2;refine(?_ :(if a=g then h a+d else h a)+sm _ l=h a+sm h l+(if g∈a::l then d else 0));by_cases c:a=g
  ·subst c
   refine Z (if_pos rfl) (Z (if_pos KJ) ?_);rw[if_neg n.1] at i;exact L2 (bM (lP _ _ _ _) 0x19187181a7139103a rfl (KQ i)) (bM (lP _ _ _ _) 0x191871a197131038a rfl (KQ i.symm))
  ·refine Z (if_neg c) ?_
   simp only[(propext ⟨λm=>(KM.mp m).elim (λe=>(c e.symm).elim) id,KP _⟩:(g∈a::l)=(g∈l))];exact L2 (bM (lP _ _ _ _) 0x1871a1971381a9 rfl (KQ i)) (bM (lP _ _ _ _) 0x191871a713198a rfl (KQ i.symm))
theorem dw:ar.Nodup:=by decide
noncomputable def oM(M:Hs)(f:Int->Nat):Nat:=sm (λt=>if M.Y t=t then f t else 0) ar
theorem lg{f:Int->Nat}(n:aj t)(r:M.Y t=t):f t<=oM M f:=by have:=Dx (f:=λt=>if M.Y t=t then f t else 0) (aR n);simp only[if_pos r] at this;exact this
theorem hV{t:Int}(h:t∈ar):aj t:=by exact(by decide:∀t∈ar,3<=t/\t<=11) t h
theorem kl{J:Hs}{f F:Int->Nat}(S:aj s)(n:aj g)(R:M.Y s=s)(r:M.Y g=g)(N:s≠g)(j:∀t,aj t->(J.Y t=t↔M.Y t=t/\t≠s))(G:F g=f g+f s)(H:∀t,t≠g->F t=f t):oM J F=oM M f:=by
 have a:=qR (h:=λt=>if M.Y t=t then f t else 0) (s:=s) dw;have b:=nT (h:=λt=>if t=s then 0 else if M.Y t=t then f t else 0) (g:=g) (d:=f s) dw;replace a:=(if_pos R)▸(if_pos (aR S))▸a;replace b:=(if_pos (aR n))▸b;have c:oM J F=sm (λt=>if t=g then(if t=s then 0 else if M.Y t=t then f t else 0)+f s else(if t=s then 0 else if M.Y t=t then f t else 0)) ar:=by
  refine iy λt m=>?_;have h:=j t (hV m);by_cases i:t=g
  ·clear b H n;subst i
   exact Z (if_pos rfl) (Z (if_pos (h.mpr ⟨r,N.symm⟩)) (Z (if_neg N.symm) (Z (if_pos r) (Z G rfl))))
  ·refine Z (if_neg i) (Z (H t i) ?_)
   by_cases e:t=s;·exact Z (if_pos e) (Z (if_neg λq=>(h.mp q).2 e) rfl)
   ·refine Z (if_neg e) ?_
    by_cases E:M.Y t=t;·exact Z (if_pos E) (Z (if_pos (h.mpr ⟨E,e⟩)) rfl)
    ·exact Z (if_neg E) (Z (if_neg λq=>E (h.mp q).1) rfl)
 exact Z c (Z b (a))
noncomputable def cls(M:Hs):Nat:=oM M λ_=>1
theorem Bp{J:Hs}(n:aj s)(r:M.Y s=s)(H:∀t,aj t->(J.Y t=t↔M.Y t=t/\t≠s)):cls J+1=cls M:=by
 have a:=qR (h:=λt=>if M.Y t=t then 1 else 0) (s:=s) dw;rw[if_pos (aR n),if_pos r] at a;have c:cls J=sm (λt=>if t=s then 0 else if M.Y t=t then 1 else 0) ar:=by
  refine iy λt m=>?_;have h:=H t (hV m);by_cases e:t=s;·exact Z (if_pos e) (Z (if_neg λq=>(h.mp q).2 e) rfl)
  ·refine Z (if_neg e) ?_
   by_cases E:M.Y t=t;·exact Z (if_pos E) (Z (if_pos (h.mpr ⟨E,e⟩)) rfl)
   ·exact Z (if_neg E) (Z (if_neg λq=>E (h.mp q).1) rfl)
 exact Z c (a)
structure cN(F:List bm)(M:Hs)(E:List ci)(P:List (Int×Int×Option Int)):Prop where
 fo:b8 M.up E
 en:∀x y w,(x,y,w)∈E->aj x/\aj y
 gr:dR (zQ F) E
 ro:∀x y,aj x->aj y->(M.Y x=M.Y y↔cf E x y)
 rn:∀x,aj x->aj (M.Y x)
 rr:∀x,aj x->M.Y (M.Y x)=M.Y x
 me:∀t,aj t->M.Y t=t->∀x,x∈M.mem t↔aj x/\M.Y x=t
 us:∀t,aj t->M.Y t=t->∀x,x∈M.aM t↔∃u,ta x=U u/\M.Y u=t
 va:∀t,aj t->M.Y t=t->M.val t≠0->num (M.val t)/\M.Y (M.val t)=t
 vb:∀x,num x->M.val (M.Y x)≠0
 ap:∀t,aj t->M.Y t=t->∀p∈M.bl t,sA F p.2.2 p.1 p.2.1
 an:∀t,aj t->∀p∈M.bl t,aj p.1/\aj p.2.1
 ac:∀m x y,sA F m x y->(x,y,m)∈M.bl (M.Y x)/\(x,y,m)∈M.bl (M.Y y)
 fn:∀f∈F,aj f.x/\aj f.y
 wa:∀t,aj t->∀w∈M.bK t,∃s,M.aC w=U s
 si:∀t p,M.aC t=U p->aj p.1/\aj p.2/\t∈fC
 tb:∀m o,M.bu m=U o->∃u,ta o=U u/\m=[0,M.Y u]
 tq:∀t u,ta t=U u->∃o,M.bu [0,M.Y u]=U o/\(M.Y o=M.Y t\/(t,o,KF)∈P)
 pn:∀e∈P,aj e.1/\aj e.2.1/\(∀m,e.2.2=U m->zQ F m e.1 e.2.1)/\(e.2.2=KF->∃u v,ta e.1=U u/\ta e.2.1=U v/\M.Y u=M.Y v)
 ti:∀m x y,(⟨true,x,y,m⟩:bm)∈F->M.Y x=M.Y y\/(x,y,U m)∈P
 b1:oM M (λt=>(M.mem t).length)<=9
 b2:oM M (λt=>(M.aM t).length)<=3
 b3:oM M (λt=>(M.bl t).length)<=2*F.length
 b4:oM M (λt=>(M.bK t).length)<=6
theorem uo(F:b8 up E)(r:a6 up x y):cf E x y:=by
 induction r with
 |refl=>exact .refl
 |step e _ i=>exact KS (F.2.1 _ _ _ e) (λm=>(cf.u1 .refl m).trans i) λm=>(cf.wz .refl m).trans i
theorem fU{a:Type}{f:Int->List a}{s:Int}:(aH f g (f g++f s) t).length=if t=g then(f g).length+(f s).length else(f t).length:=by
 by_cases c:t=g;·subst c;(exact Z (ai.M.aP _ _ _) (Z (if_pos rfl) (Z KH rfl)))
 ·exact Z (ai.M.aI _ _ c) (Z (if_neg c) rfl)
variable {F:List bm}
section
variable {TZ:Hs} {E:List ci} {P q:List (Int×Int×Option Int)} {a b l r top:Int} {w:Option Int} {L:List eN}
theorem i8{a:Type}{f:Int->List a}{s:Int}{x:a}:x∈aH f g (f g++f s) t↔(t=g/\(x∈f g\/x∈f s))\/(t≠g/\x∈f t):=by
 by_cases c:t=g
 ·subst c;rw[ai.M.aP,KW]
  exact⟨λh=>.inl ⟨rfl,h⟩,λh=>h.elim (λk=>k.2) λk=>(k.1 rfl).elim⟩
 ·exact Z (ai.M.aI _ _ c) ⟨λh=>.inr ⟨c,h⟩,λh=>h.elim (λk=>(c k.1).elim) λk=>k.2⟩
theorem cN.Y(C:cN F M E P)(n:aj l)(X:JF M TZ l r w L)(x:Int)(nx:aj x):TZ.Y x=if M.Y x=M.Y l then M.Y r else M.Y x:=by
 rw[X.Y];have:=C.me _ (C.rn l n) (C.rr l n) x;by_cases c:M.Y x=M.Y l;·rw[if_pos c,if_pos (this.mpr ⟨nx,c⟩)]
 ·rw[if_neg c,if_neg λm=>c (this.mp m).2]
theorem cN.DR(C:cN F M E P)(n:aj l)(N:aj r)(a:M.Y l≠M.Y r)(X:JF M TZ l r w L)(t:Int)(T:aj t):TZ.Y t=t↔M.Y t=t/\t≠M.Y l:=by
 refine Z (C.Y n X t T) ?_;by_cases c:M.Y t=M.Y l
 ·refine Z (if_pos c) ⟨λe=>?_,λe=>(e.2 (e.1.symm.trans c)).elim⟩
  rw[<-e,C.rr r N] at c;exact(a c.symm).elim
 ·exact Z (if_neg c) ⟨λe=>⟨e,λq=>c (Z q (Z (C.rr l n) rfl))⟩,λe=>e.1⟩
set_option tactic.hygienic true in
theorem cN.join(C:cN F M E ((a,b,w)::P))(ne:M.Y l≠M.Y r)(or:(l=a/\r=b)\/(l=b/\r=a))(Pt:cn M.up l L top)(X:JF M TZ l r w L)(bn:∀e∈q,∃t o,e=(t,o,none)/\t∈M.aM (M.Y l)/\TZ.bu [0,M.Y r]=U o)
  (bs:∀t∈M.aM (M.Y l),∃o,TZ.bu [0,M.Y r]=U o/\(TZ.Y o=TZ.Y t\/(t,o,none)∈q)):cN F TZ (E++[(l,r,w)]) (P++q):=by
 refine fj (C.pn _ KJ) λna nb ht hn=>?_
 have G:aj l:=by refine KS or (λaa=>ay aa λh _=>?_) λac=>ay ac λh _=>?_ <;>refine Z h ?_ <;>assumption
 have J:aj r:=by refine KS or (λaf=>ay af λ_ h=>?_) λag=>ay ag λ_ h=>?_ <;>refine Z h ?_ <;>assumption
 have S:=C.rn l G
 have I:=C.rn r J
 have R:=C.rr l G
 have rg:=C.rr r J
 have K:=C.Y G X
 have kt:=C.DR G J ne X
 have same:∀{x y},aj x->aj y->M.Y x=M.Y y->TZ.Y x=TZ.Y y:=λnx n e=>by simp only[K _ nx,K _ n,e]
 have W:TZ.Y a=TZ.Y b:=by refine KS or (λan=>ay an λh k=>?_) λap=>ay ap λh k=>?_ <;>simp only[<-h,<-k,(Z (K l G) (Z (if_pos rfl) rfl):TZ.Y l=M.Y r),(Z (K r J) (Z (if_neg λe=>ne e.symm) rfl):TZ.Y r=M.Y r)]
 have keep:∀{x t},aj x->M.Y x=t->t≠M.Y l->TZ.Y x=t:=λnx e c=>Z (K _ nx) (Z (if_neg λq=>c (e.symm.trans q)) (Z e rfl))
 have D:∀{x},aj x->M.Y x=M.Y l->TZ.Y x=M.Y r:=λnx e=>Z (K _ nx) (Z (if_pos e) rfl)
 have s:∀{x},aj x->M.Y x=M.Y r->TZ.Y x=M.Y r:=λnx e=>keep nx e ne.symm
 have T:=Pt.turn C.fo.1
 have F':=T.y0 C.fo
 refine⟨?_,λx y v m=>?_,?_,λx y nx n=>?_,λx nx=>?_,λx nx=>?_,λt N rt x=>?_,λt N rt x=>?_,λt N rt v=>?_,λx nx=>?_,λt N rt p A=>?_,λt N p A=>?_,λm x y A=>?_,C.fn,λt N v hv=>?_,λt p A=>?_,λm o eo=>?_,λt u hu=>?_,λe m=>?_,λm x y hm=>?_,Z (kl S I R rg ne kt (f:=λt=>(M.mem t).length) (by rw[X.mem,fU,if_pos rfl]) λt h=>by rw[X.mem,fU,if_neg h]) C.b1,Z (kl S I R rg ne kt (f:=λt=>(M.aM t).length) (by rw[X.aM,fU,if_pos rfl]) λt h=>by rw[X.aM,fU,if_neg h]) C.b2,Z (kl S I R rg ne kt (f:=λt=>(M.bl t).length) (by rw[X.bl,fU,if_pos rfl]) λt h=>by rw[X.bl,fU,if_neg h]) C.b3,Z (kl S I R rg ne kt (f:=λt=>(M.bK t).length) (by rw[X.bK,fU,if_pos rfl]) λt h=>by rw[X.bK,fU,if_neg h]) C.b4⟩
 ·exact Z X.up (lH F' (T.head C.fo.1 rfl) λrc=>ne (((C.ro r l J G).mpr (uo F' rc)).symm))
 ·rcases KW.mp m with m |m
  ·exact C.en _ _ _ m
  ·cases KG.mp m;exact⟨G,J⟩
 ·clear X;induction w with
  |some m=>
   refine .jj C.gr ?_
   have:=ht m rfl
   clear hn ht nb na C W
   rcases or with⟨rfl,rfl⟩ |⟨rfl,rfl⟩
   ·exact this
   ·exact this.symm
  |none=>
   refine cR (hn rfl) λu v i g B=>?_
   have k:=(C.ro u v (aZ i).2 (aZ g).2).mp B
   clear hn ht nb na W
   rcases or with⟨rfl,rfl⟩ |⟨rfl,rfl⟩
   ·exact .args C.gr i g k
   ·exact .args C.gr g i k.symm
 ·have j:∀{x y},cf E x y->cf (E++[(l,r,w)]) x y:=λk=>k.bv λe m=>KZ _ m
  have lr:cf (E++[(l,r,w)]) l r:=.u1 .refl (K1 _ (Lc _))
  constructor
  ·intro e
   simp only[K x nx,K y n] at e
   by_cases Q:M.Y x=M.Y l
   ·by_cases V:M.Y y=M.Y l
    ·exact j ((C.ro x y nx n).mp (Q.trans V.symm))
    ·rw[if_pos Q,if_neg V] at e
     exact(j ((C.ro x l nx G).mp Q)).trans (lr.trans (j ((C.ro r y J n).mp e)))
   ·by_cases V:M.Y y=M.Y l
    ·rw[if_neg Q,if_pos V] at e
     exact(j ((C.ro x r nx J).mp e)).trans (lr.symm.trans (j ((C.ro l y G n).mp V.symm)))
    ·rw[if_neg Q,if_neg V] at e
     exact j ((C.ro x y nx n).mp e)
  ·intro k
   exact KS (qC k) (λk=>same nx n ((C.ro x y nx n).mpr k)) λas=>KS as (λa1=>ay a1 λk1 k2=>(D nx ((C.ro x l nx G).mpr k1)).trans (s n ((C.ro r y J n).mpr k2).symm).symm) λa2=>ay a2 λk1 k2=>(s nx ((C.ro x r nx J).mpr k1)).trans (D n ((C.ro l y G n).mpr k2).symm).symm
 ·refine Z (K x nx) ?_;split
  ·exact I
  ·exact C.rn x nx
 ·refine Z (K x nx) ?_;split
  ·exact s I rg
  ·rename_i c
   exact keep (C.rn x nx) (C.rr x nx) c
 ·obtain⟨rt,ts⟩:=(kt t N).mp rt
  simp only[X.mem,i8,C.me _ I rg,C.me _ S R,C.me t N rt]
  constructor
  ·rintro(⟨rfl,⟨nx,e⟩ |⟨nx,e⟩⟩ |⟨_,nx,e⟩)
   ·exact⟨nx,s nx e⟩
   ·exact⟨nx,D nx e⟩
   ·exact⟨nx,keep nx e ts⟩
  ·rintro bk;refine ay bk λnx e=>?_
   rw[K x nx] at e
   by_cases c:M.Y x=M.Y l
   ·replace e:=(if_pos c)▸e
    exact .inl ⟨e.symm,.inr ⟨nx,c⟩⟩
   ·replace e:=(if_neg c)▸e
    by_cases d:t=M.Y r
    ·exact .inl ⟨d,.inl ⟨nx,e.trans d⟩⟩
    ·exact .inr ⟨d,nx,e⟩
 ·obtain⟨rt,ts⟩:=(kt t N).mp rt
  simp only[X.aM,i8,C.us _ I rg,C.us _ S R,C.us t N rt]
  constructor
  ·rintro(⟨rfl,⟨u,h,e⟩ |⟨u,h,e⟩⟩ |⟨_,u,h,e⟩)
   ·exact⟨u,h,s (aZ h).2 e⟩
   ·exact⟨u,h,D (aZ h).2 e⟩
   ·exact⟨u,h,keep (aZ h).2 e ts⟩
  ·rintro a3;refine aD a3 λu h e=>?_
   rw[K u (aZ h).2] at e
   by_cases c:M.Y u=M.Y l
   ·rw[if_pos c] at e
    exact .inl ⟨e.symm,.inr ⟨u,h,c⟩⟩
   ·rw[if_neg c] at e
    by_cases d:t=M.Y r
    ·exact .inl ⟨d,.inl ⟨u,h,e.trans d⟩⟩
    ·exact .inr ⟨d,u,h,e⟩
 ·obtain⟨rt,ts⟩:=(kt t N).mp rt
  rw[X.val] at v⊢
  have u4:M.val t≠0->num (M.val t)/\TZ.Y (M.val t)=t:=λv=>by
   obtain⟨H,h2⟩:=C.va t N rt v
   exact⟨H,keep (ce H) h2 ts⟩
  by_cases c:M.val (M.Y r)=0
  ·rw[if_pos c] at v⊢
   by_cases d:t=M.Y r
   ·clear u4 ts rt N;clear rt;subst d
    rw[ai.M.aP] at v⊢
    exact ay (C.va _ S R v) λH h2=>⟨H,D (ce H) h2⟩
   ·rw[ai.M.aI _ _ d] at v⊢;exact u4 v
  ·rw[if_neg c] at v⊢;exact u4 v
 ·have v:=C.vb x nx
  simp only[K x (ce nx),X.val]
  by_cases c:M.val (M.Y r)=0
  ·refine Z (if_pos c) ?_
   by_cases d:M.Y x=M.Y l
   ·(refine Z (if_pos d) ?_;rw[ai.M.aP,<-d]);exact v
   ·refine Z (if_neg d) ?_
    by_cases f:M.Y x=M.Y r
    ·rw[f] at v;exact(v c).elim
    ·exact Z (ai.M.aI _ _ f) v
  ·refine Z (if_neg c) ?_
   by_cases d:M.Y x=M.Y l
   ·exact Z (if_pos d) c
   ·exact Z (if_neg d) v
 ·obtain⟨rt,ts⟩:=(kt t N).mp rt
  rw[X.bl,i8] at A
  rcases A with⟨_,h |h⟩ |⟨_,h⟩
  ·exact C.ap _ I rg p h
  ·exact C.ap _ S R p h
  ·exact C.ap t N rt p h
 ·rw[X.bl,i8] at A
  rcases A with⟨_,h |h⟩ |⟨_,h⟩
  ·exact C.an _ I p h
  ·exact C.an _ S p h
  ·exact C.an t N p h
 ·obtain⟨H,h2⟩:=C.ac m x y A
  refine ay (C.fn _ A) λnx n=>?_
  have key:∀{z},aj z->(x,y,m)∈M.bl (M.Y z)->(x,y,m)∈TZ.bl (TZ.Y z):=by
   intro z nz h
   simp only[X.bl,i8,K z nz]
   by_cases c:M.Y z=M.Y l
   ·refine Z (if_pos c) ?_;rw[c] at h;exact .inl ⟨rfl,.inr h⟩
   ·refine Z (if_neg c) ?_
    by_cases d:M.Y z=M.Y r
    ·rw[d] at h;exact .inl ⟨d,.inl h⟩
    ·exact .inr ⟨d,h⟩
  exact⟨key nx H,key n h2⟩
 ·refine Z X.b5.1 ?_
  rw[X.bK,i8] at hv
  rcases hv with⟨_,h |h⟩ |⟨_,h⟩
  ·exact C.wa _ I v h
  ·exact C.wa _ S v h
  ·exact C.wa t N v h
 ·replace A:=X.b5.1▸A;exact C.si t p A
 ·by_cases Q:m=[0,M.Y l]
  ·subst Q
   obtain⟨H,h2⟩:=X.t2 o eo
   refine aD (C.tb _ _ h2) λu i g=>(H ((C.us _ S R o).mpr ⟨u,i,?_⟩)).elim
   injection g with _ g;injection g with g;exact g.symm
  ·by_cases V:m=[0,M.Y r]
   ·clear Q;subst V
    rcases X.t3 o eo with h |h
    ·refine aD (C.tb _ _ h) λu i g=>?_
     have g:M.Y r=M.Y u:=by injection g with _ g;injection g
     exact⟨u,i,Z (s (aZ i).2 g.symm) rfl⟩
    ·obtain⟨u,i,g⟩:=(C.us _ S R o).mp h
     exact⟨u,i,Z (D (aZ i).2 g) rfl⟩
   ·replace eo:=(X.t1 m Q V)▸eo
    refine aD (C.tb _ _ eo) λu i bd=>?_;clear eo V;subst bd
    exact⟨u,i,Z (keep (aZ i).2 rfl λe=>Q (by rw[e])) rfl⟩
 ·have nu:=(aZ hu).2
  by_cases c:M.Y u=M.Y l
  ·exact aD (bs t ((C.us _ S R t).mpr ⟨u,hu,c⟩)) λo H h2=>⟨o,Z (D nu c) H,h2.imp id (K1 _)⟩
  ·refine aD (C.tq t u hu) λo H h2=>aD (C.tb _ _ H) λu' ho _=>⟨o,?_,?_⟩
   ·refine Z (keep nu rfl c) ?_
    by_cases d:M.Y u=M.Y r
    ·rw[d] at H⊢;exact X.t4 o H
    ·exact Z (X.t1 _ (λe=>c (by injection e with _ e;injection e)) (λe=>d (by injection e with _ e;injection e))) H
   ·rcases h2 with h2 |h2
    ·exact .inl (same (aZ ho).1 (aZ hu).1 h2)
    ·refine KS (KM.mp h2) (λh2=>?_) λh2=>.inr (KZ _ h2)
     clear hu ho H hn ht nb na X C;cases h2;exact .inl W.symm
 ·rcases KW.mp m with m |m
  ·exact fj (C.pn e (KP _ m)) λH h2 h3 h4=>⟨H,h2,h3,λq=>cR (h4 q) λu v i g B=>⟨u,v,i,g,same (aZ i).2 (aZ g).2 B⟩⟩
  ·refine cR (bn e m) λt o bi H h2=>?_;clear m;clear m;subst bi
   refine aD ((C.us _ S R t).mp H) λu i g=>?_
   have key:∃v,ta o=U v/\TZ.Y v=M.Y r:=by
    refine KS (X.t3 o h2) (λh=>?_) λh=>aD ((C.us _ S R o).mp h) λv B e4=>⟨v,B,D (aZ B).2 e4⟩
    ·refine aD (C.tb _ _ h) λv B e4=>?_
     have e4:M.Y r=M.Y v:=by injection e4 with _ e4;injection e4
     exact⟨v,B,s (aZ B).2 e4.symm⟩
   exact aD key λv B e4=>⟨(aZ i).1,(aZ B).1,λ_ q=>(nomatch q),λ_=>⟨u,v,i,B,(D (aZ i).2 g).trans e4.symm⟩⟩
 ·obtain⟨nx,n⟩:=C.fn _ hm
  rcases C.ti m x y hm with h |h
  ·exact .inl (same nx n h)
  ·refine KS (KM.mp h) (λh=>?_) λh=>.inr (KZ _ h)
   clear n nx hm hn ht nb na X C;cases h;exact .inl W
end
abbrev fW(F:List bm)(x y:Int):Prop:=∃m,zQ F m x y
variable {N:Hs}
section
variable {TZ:Hs} {E:List ci} {P q:List (Int×Int×Option Int)} {a b l r top:Int} {w:Option Int} {L:List eN}
theorem m8{T:Int->Int->Int->Prop}(g:dR T E):∀{x y},(x,y,KF)∈E->∃u v,ta x=U u/\ta y=U v/\cf E u v:=by
 induction g with
 |nil=>intro x y m;cases m
 |jj _ _ i=>
  intro x y m;rcases KW.mp m with m |m
  ·exact cR (i m) λu v a b c=>⟨u,v,a,b,c.bv λe m=>KZ _ m⟩
  ·cases KG.mp m
 |args _ d f c i=>
  intro x y m;rcases KW.mp m with m |m
  ·exact cR (i m) λu v a b c=>⟨u,v,a,b,c.bv λe m=>KZ _ m⟩
  ·cases KG.mp m
   exact⟨_,_,d,f,c.bv λe m=>KZ _ m⟩
theorem k6(fo:b8 M.up E)(c:cf E x y):n9 M.up x y:=ai.M.pa fo (λ_ m=>m) c
theorem cN.pa(C:cN F M E P){x y:Int}(nx:aj x)(n:aj y)(e:M.Y x=M.Y y):n9 M.up x y:=k6 C.fo ((C.ro x y nx n).mp e)
theorem cN.uV(C:cN F M E P):h3 M.up:=by have d:∀x p,M.up x=U p->(x,p.1,p.2)∈E\/(p.1,x,p.2)∈E:=λx p e=>C.fo.2.1 _ _ _ e;exact⟨C.fo.1,λx p e=>(d x p e).elim (λm=>C.en _ _ _ m) λm=>(C.en _ _ _ m).symm,λc p e=>KS (d _ _ e) (λm=>cR (m8 C.gr m) λu v a b k=>⟨u,v,a,b,k6 C.fo k⟩) λm=>cR (m8 C.gr m) λu v a b k=>⟨v,u,b,a,k6 C.fo k.symm⟩⟩
theorem cN.FQ(C:cN F M E P):mD M:=⟨C.rn,C.an,C.si⟩
theorem cN.eh(C:cN F M E P){x y:Int}(nx:aj x)(n:aj y)(e:M.Y x=M.Y y):Cl (fW F) x y:=C.gr.eh ((C.ro x y nx n).mp e)
theorem cN.r6(C:cN F M E []){x y:Int}(c:Cl (fW F) x y):x=y\/(aj x/\aj y/\M.Y x=M.Y y):=by
 induction c with
 |jj h=>
  obtain⟨m,h |h⟩:=h
  ·obtain⟨nx,n⟩:=C.fn _ h
   exact .inr ⟨nx,n,(C.ti _ _ _ h).resolve_right λh=>nomatch h⟩
  ·obtain⟨nx,n⟩:=C.fn _ h
   exact .inr ⟨n,nx,((C.ti _ _ _ h).resolve_right λh=>nomatch h).symm⟩
 |refl=>exact .inl rfl
 |symm _ i=>exact i.elim (λe=>.inl e.symm) λ⟨a,b,c⟩=>.inr ⟨b,a,c.symm⟩
 |trans _ _ g I=>
  rcases g with rfl |⟨a,b,c⟩
  ·exact I
  ·rcases I with rfl |⟨A,B,c'⟩
   ·exact .inr ⟨a,b,c⟩
   ·exact .inr ⟨a,B,c.trans c'⟩
 |@congr x y u v d f _ i=>
  refine aD (C.tq x u d) λo H j=>aD (C.tq y v f) λq l p=>?_;rw[(i.elim (λe=>Z e rfl) λk=>k.2.2:M.Y u=M.Y v),l] at H
  (replace H:=KC H;subst H)
  exact .inr ⟨(aZ d).1,(aZ f).1,(j.resolve_right λh=>nomatch h).symm.trans (p.resolve_right λh=>nomatch h)⟩
structure NC(F:List bm)(M:Hs):Prop where
 nv:M.Y 7≠M.Y 8
 np:∀m x y,sA F m x y->M.Y x≠M.Y y
def DD(F:List bm):Prop:=Cl (fW F) 7 8\/∃m x y,sA F m x y/\Cl (fW F) x y
theorem NC.ue(n:NC F M)(C:cN F M E []):¬DD F:=by
 rintro(h |⟨m,x,y,H,a⟩);·exact KS (C.r6 h) (λe=>absurd e (by decide)) λr=>cH r λ_ _ e=>n.nv e
 ·exact KS (C.r6 a) (λe=>n.np m x y H (Z e rfl)) λR=>cH R λ_ _ e=>n.np m x y H e
theorem NC.join(n:NC F M)(C:cN F M E P)(o:aj l)(s:aj r)(q:M.Y l≠M.Y r)(X:JF M TZ l r w L)(j:M.val (M.Y l)=0\/M.val (M.Y r)=0)(i:∀p∈TZ.bl (M.Y l),TZ.Y p.1≠TZ.Y p.2.1):NC F TZ:=by
 have k:=C.Y o X;have ud:∀{x y},aj x->aj y->M.Y x≠M.Y y->TZ.Y x=TZ.Y y->(M.Y x=M.Y l/\M.Y y=M.Y r)\/(M.Y x=M.Y r/\M.Y y=M.Y l):=by
  intro x y nx N n e;simp only[k x nx,k y N] at e;by_cases g:M.Y x=M.Y l
  ·by_cases d:M.Y y=M.Y l
   ·exact(n (g.trans d.symm)).elim
   ·rw[if_pos g,if_neg d] at e;exact .inl ⟨g,e.symm⟩
  ·by_cases d:M.Y y=M.Y l
   ·rw[if_neg g,if_pos d] at e;exact .inr ⟨e,d⟩
   ·rw[if_neg g,if_neg d] at e;exact(n e).elim
 have A:TZ.bl (M.Y l)=M.bl (M.Y l):=Z X.bl (ai.M.aI _ _ q);replace i:=A▸i;refine⟨λe=>?_,λm x y h e=>?_⟩
 ·refine KS (ud (by decide) (by decide) n.nv e) (λR=>ay R λH f=>?_) λa=>ay a λH f=>?_
  ·have v:=C.vb 7 (.inl rfl);have V:=C.vb 8 (.inr rfl)
   rw[H] at v;rw[f] at V;exact j.elim v V
  ·have v:=C.vb 7 (.inl rfl);have V:=C.vb 8 (.inr rfl)
   rw[H] at v;rw[f] at V;exact j.elim V v
 ·refine ay (C.fn _ h) λnx N=>ay (C.ac m x y h) λa1 a2=>KS (ud nx N (n.np m x y h) e) (λb=>ay b λH f=>?_) λc=>ay c λH f=>?_
  ·rw[H] at a1;exact i _ a1 e
  ·rw[f] at a2;exact i _ a2 e
theorem cN.cg(C:cN F M E P)(h:N.Y=M.Y)(H:N.mem=M.mem)(a:N.aM=M.aM)(b:N.val=M.val)(c:N.bl=M.bl)(d:N.bK=M.bK)(e:N.up=M.up)(f:N.bu=M.bu)(g:N.aC=M.aC):cN F N E P:=by induction M;induction N;dsimp only at h H a b c d e f g;subst h H a b c d e f g;exact⟨C.1,C.2,C.3,C.4,C.5,C.6,C.7,C.8,C.9,C.10,C.11,C.12,C.13,C.14,C.15,C.16,C.17,C.18,C.19,C.20,C.21,C.22,C.23,C.24⟩
def wV(F:List bm)(c:Int×Int×Int):Prop:=(c.2.2=0/\num c.1/\num c.2.1/\c.1≠c.2.1)\/sA F c.2.2 c.1 c.2.1\/sA F c.2.2 c.2.1 c.1
def F6(F:List bm)(E:List ci)(p:Int×Int):Option (Int×Int×Int)->Prop
 |none=>cf E p.1 p.2
 |some c=>cf E p.1 c.1/\cf E p.2 c.2.1/\wV F c
def TO(F:List bm)(M:Hs)(E:List ci):Prop:=∀t c,M.a7 t=U c->∃p,M.aC t=U p/\F6 F E p c
theorem F6.bv{a:List bm}{b:List ci}{c:Option (Int×Int×Int)}(d:∀f∈F,f∈a)(H:∀e∈E,e∈b)(h:F6 F E p c):F6 a b p c:=by
 induction c with
 |none=>exact cf.bv H h
 |some c=>exact cH h λg i j=>⟨g.bv H,i.bv H,KS j (λh=>.inl h) λr=>KS r (λh=>.inr (.inl (d _ h))) λh=>.inr (.inr (d _ h))⟩
structure nM(M:Hs)(E:List ci)(N:Hs)(e:List ci):Prop where
 bk:gG M N
 pre:∃E1,e=E++E1
 a7:∀t c,M.a7 t=U c->N.a7 t=U c
 aC:N.aC=M.aC
 am:N.am=M.am
 cd:N.cd=M.cd
 a4:∀t∈N.a4,t∈M.a4\/(M.a7 t=KF/\t∈fC/\(M.aC t).isSome=true)
theorem nM.refl:nM M E M E:=⟨.refl,⟨[],(K8 _).symm⟩,λ_ _ h=>h,rfl,rfl,rfl,λ_ h=>.inl h⟩
theorem nM.trans{m:Hs}{E1 E2:List ci}(a:nM M E m E1)(b:nM m E1 N E2):nM M E N E2:=by
 refine cV a.pre λx H=>cV b.pre λy d=>⟨a.bk.trans b.bk,⟨x++y,by simp only[d,H,K7]⟩,λt c h=>b.a7 t c (a.a7 t c h),b.aC.trans a.aC,b.am.trans a.am,b.cd.trans a.cd,λt h=>KS (b.a4 t h) (λh=>a.a4 t h) λr=>ay r λh k=>?_⟩
 ·refine .inr ⟨?_,k.1,hR a.aC k.2⟩
  induction e:M.a7 t with
  |none=>rfl
  |some c=>rw[a.a7 t c e] at h;exact al h.symm
structure df(F:List bm)(M:Hs)(E:List ci)(P:List (Int×Int×Option Int)):Prop where
 C:cN F M E P
 nc:NC F M
 to:TO F M E
theorem df.jV{t:Int}(f:df F M E P)(T:lu M t N):df F N E P/\nM M E N E/\N.aU=M.aU/\N.aw=M.aw/\N.a4.length<=M.a4.length+1/\N.ak.length<=M.ak.length+1/\N.Y=M.Y/\N.bK=M.bK:=by
 have key:∀{c p},M.a7 t=none->M.aC t=U p->F6 F E p c->df F (d2 M t c) E P/\nM M E (d2 M t c) E/\(d2 M t c).aU=M.aU/\(d2 M t c).aw=M.aw/\(d2 M t c).a4.length<=M.a4.length+1/\(d2 M t c).ak.length<=M.ak.length+1/\(d2 M t c).Y=M.Y/\(d2 M t c).bK=M.bK:=by
  intro c p g a i;have b:gG M (d2 M t c):=by
   obtain⟨l,r⟩:=p;refine⟨[.a7 t],rfl,.dZ ?_⟩;have j:aH (aH M.a7 t (U c)) t none=M.a7:=by simp only[ai.M.e7,<-g,ai.M.dB]
   have k:(d2 M t c).qe (aH (d2 M t c).a7 t none)=M.ov (d2 M t c):=Hs.BL rfl rfl rfl rfl rfl rfl rfl rfl rfl j rfl rfl rfl rfl rfl rfl rfl;exact hR k (fw.a7 (M:=d2 M t c) (t:=t) (c:=c) (ai.M.aP _ _ _))
  refine⟨⟨f.C.cg rfl rfl rfl rfl rfl rfl rfl rfl rfl,⟨f.nc.nv,f.nc.np⟩,λx d H=>?_⟩,⟨b,⟨[],(K8 _).symm⟩,λx d H=>?_,rfl,rfl,rfl,λx H=>?_⟩,rfl,rfl,KQ (be _),KQ (be _),rfl,rfl⟩
  ·have H:aH M.a7 t (U c) x=U d:=H
   by_cases e:x=t
   ·clear b g T;subst e;rw[ai.M.aP] at H;(replace H:=KC H;subst H)
    exact⟨p,a,i⟩
   ·replace H:=(ai.M.aI _ _ e)▸H;exact f.to x d H
  ·exact((Z (ai.M.aI _ _ λe=>by replace H:=g▸e▸H;exact al H) H):aH M.a7 t (U c) x=U d)
  ·refine KS (KW.mp H) (λh=>.inl h) λh=>?_
   clear H;cases KG.mp h;exact .inr ⟨g,(f.C.si _ _ a).2.2,by refine Z a ?_;rfl⟩
 induction T with
 |u4=>exact⟨f,.refl,rfl,rfl,Lv _,Lv _,rfl,rfl⟩
 |@eq l r g a i=>exact cH (f.C.si _ _ a) λn R _=>key g a (c:=none) ((f.C.ro _ _ n R).mp i)
 |@ne l r c g a i v=>
  refine cH (f.C.si _ _ a) λn R _=>key g a (c:=U c) ?_;rcases v with⟨rfl,V,w⟩ |⟨y,z,m⟩
  ·exact ay (f.C.va _ (f.C.rn l n) (f.C.rr l n) V) λo j=>ay (f.C.va _ (f.C.rn r R) (f.C.rr r R) w) λq k=>⟨(f.C.ro _ _ n (ce o)).mp j.symm,(f.C.ro _ _ R (ce q)).mp k.symm,.inl ⟨rfl,o,q,λe=>i (by dsimp only at e;exact hR j (Z e (Z k rfl)))⟩⟩
  ·have s:sA F c.2.2 c.1 c.2.1\/sA F c.2.2 c.2.1 c.1:=m.imp (f.C.ap _ (f.C.rn l n) (f.C.rr l n) _) (f.C.ap _ (f.C.rn l n) (f.C.rr l n) _)
   have u:aj c.1/\aj c.2.1:=s.elim (λh=>f.C.fn _ h) λh=>(f.C.fn _ h).symm;exact⟨(f.C.ro _ _ n u.1).mp y.symm,(f.C.ro _ _ R u.2).mp z.symm,.inr s⟩
theorem df.AP{s:List Int}(T:iT M s N):df F M E P->df F N E P/\nM M E N E/\N.aU=M.aU/\N.aw=M.aw/\N.a4.length<=M.a4.length+s.length/\N.ak.length<=M.ak.length+s.length/\N.Y=M.Y/\N.bK=M.bK:=by
 induction T with
 |nil=>exact λf=>⟨f,.refl,rfl,rfl,KX _,KX _,rfl,rfl⟩
 |cons t _ i=>
  intro f;refine xb (f.jV t) λa x c q n b r w=>xb (i a) λd X C Q e g R W=>⟨d,x.trans X,C.trans c,Q.trans q,?_,?_,R.trans r,W.trans w⟩;·simp only[Lr];exact bM (lP _ _ _ _) 0x711139813a113813719a rfl n e
  ·simp only[Lr];exact bM (lP _ _ _ _) 0x711139813a113813719a rfl b g
end
structure rI(n:Nat)(M:Hs):Prop where
 tr:M.ak.length+20*cls M<=300+20*n
 nw:M.a4.length+20*cls M<=300
 qu:M.aw.length+4*cls M<=40
 xN:M.am.length<=1000
section
variable {TZ:Hs} {E:List ci} {P q:List (Int×Int×Option Int)} {a b l r top:Int} {w:Option Int} {L:List eN} {k:Nat}
theorem i4{a b:Nat}(h:a+b<=5000):a+b<=aN:=KB h (by decide)
theorem k2(C:cN F M E ((a,b,w)::P))(or:(l=a/\r=b)\/(l=b/\r=a)):aj l/\aj r:=by
 refine cH (C.pn _ KJ) λn N _=>?_;clear C;rcases or with⟨rfl,rfl⟩ |⟨rfl,rfl⟩
 ·exact⟨n,N⟩
 ·exact⟨N,n⟩
theorem cN.jf(C:cN F M E P)(n:aj l)(N:M.Y l≠M.Y r):JF M (b6 M l r w L top) l r w L:=by exact JF.of N λt m=>aD ((C.us _ (C.rn l n) (C.rr l n) t).mp m) λu h H=>⟨u,h,H,(C.me _ (C.rn l n) (C.rr l n) u).mpr ⟨(aZ h).2,H⟩⟩
structure HC(M:Hs)(s:Int)(F:List bm):Prop where
 m:(M.mem s).length<=9
 u:(M.aM s).length<=3
 a:(M.bl s).length<=2*F.length
 w:(M.bK s).length<=6
theorem cN.ng(C:cN F M E P){x:Int}(nx:aj x):HC M (M.Y x) F:=
 ⟨KB (lg (f:=λt=>(M.mem t).length) (C.rn x nx) (C.rr x nx)) C.b1,KB (lg (f:=λt=>(M.aM t).length) (C.rn x nx) (C.rr x nx)) C.b2,KB (lg (f:=λt=>(M.bl t).length) (C.rn x nx) (C.rr x nx)) C.b3,KB (lg (f:=λt=>(M.bK t).length) (C.rn x nx) (C.rr x nx)) C.b4⟩
structure Kh(F:List bm)(M:Hs)(E:List ci)(k n:Nat)(l r:Int)(w:Option Int)(TZ:Hs):Prop where
 ext:nM M E TZ (E++[(l,r,w)])
 C:cN F TZ (E++[(l,r,w)]) (TZ.aw.drop (k+1))
 to:TO F TZ (E++[(l,r,w)])
 aU:TZ.aU=KF
 a4:TZ.a4=M.a4
 cl:cls TZ+1=cls M
 tr:TZ.ak.length<=M.ak.length+8
 qu:TZ.aw.length<=M.aw.length+3
 qg:M.aw.length<=TZ.aw.length
 wl:(TZ.bK (M.Y r)).length<=12
 as:TZ.bl (M.Y l)=M.bl (M.Y l)
 jl:∀x,aj x->TZ.Y x=if M.Y x=M.Y l then M.Y r else M.Y x
 Jz:TZ.am=M.am
theorem df.Je(f:df F M E ((a,b,w)::P))(j:M.aU=none)(e:M.Y l≠M.Y r)(or:(l=a/\r=b)\/(l=b/\r=a))(o:F.length<=20)(H:M.aw.drop k=(a,b,w)::P)(T:cn M.up l L top):Kh F M E k n l r w (b6 M l r w L top)/\JF M (b6 M l r w L top) l r w L:=by
 have C:=f.C;refine ay (k2 C or) λN R=>?_;have X:JF M (b6 M l r w L top) l r w L:=C.jf N e;have S:=C.ng N;have s:=C.ng R;refine lf X.q λq Q u v y=>?_;have K:k<M.aw.length:=by refine KS (OF k M.aw.length) (λh=>h) λh=>?_;replace H:=(MD h)▸H;cases H
 have z:M.aw.drop (k+1)=P:=by refine hR Sb (Z H ?_);rfl
 have A:(b6 M l r w L top).aw.drop (k+1)=P++q:=by exact Z Q (Z (List.drop_append_of_le_length K) (Z z rfl))
 refine uD X.b5 λd g x3 B i x6 x7=>⟨⟨⟨(.b6 C.uV T ⟨E,C.fo⟩ C.rn N R e (λx m=>(C.me _ (C.rn l N) (C.rr l N) x).mp m) (KB s.m (by decide)) (KB s.u (by decide)) (KB s.a (KB (Nt 2 o) (by decide))) (KB s.w (by decide)):gG M (b6 M l r w L top)),⟨_,rfl⟩,λt c h=>by refine Z g ?_;exact h,d,i,x7,λt h=>.inl (hR x3 h)⟩,by refine Z A ?_;exact(C.join e or T X v y:cN F (b6 M l r w L top) (E++[(l,r,w)]) (P++q)),λt c h=>?_,B.trans j,x3,Bp (C.rn l N) (C.rr l N) (C.DR N R e X),?_,?_,?_,?_,?_,C.Y N X,i⟩,X⟩
 ·replace h:=g▸h
  exact aD (f.to t c h) λp D G=>⟨p,by refine Z d ?_;exact D,G.bv (λ_ m=>m) λ_ m=>KZ _ m⟩
 ·have:=X.tr
  have:=S.u;lia
 ·refine Z Q (Z KH ?_)
  have:=S.u;exact bM (ip _ _ _) 0x1871337138913933 rfl u this
 ·(refine Z Q (Z KH ?_));exact Lf _ _
 ·refine Z X.bK (Z fU (Z (if_pos rfl) ?_))
  have:=S.w;have:=s.w;lia
 ·exact Z X.bl (ai.M.aI _ _ e)
theorem hP(M:Hs):cls M<=9:=by
 have:∀l:List Int,sm (λt=>if M.Y t=t then 1 else 0) l<=l.length:=by
  intro l;induction l with
  |nil=>exact KX _
  |cons t l i=>refine(?_ :(if M.Y t=t then 1 else 0)+sm _ l<=l.length+1);split<;>lia
 exact this ar
theorem df.JP(f:df F M E ((a,b,w)::P))(j:M.aU=none)(i:M.Y l≠M.Y r)(or:(l=a/\r=b)\/(l=b/\r=a))(q:F.length<=20)(v:n<=100)(Q:M.aw.drop k=(a,b,w)::P)(B:rI n M):k1 M l r w:=by
 have C:=f.C;refine ay (k2 C or) λN R=>?_;have s:=C.ng N;have S:=C.ng R;have x:=B.tr;have y:=B.nw;have z:=B.qu;refine⟨C.uV,N,R,i,C.rn,λt m=>((C.me _ (C.rn l N) (C.rr l N) t).mp m).1,λt m=>aD ((C.us _ (C.rn l N) (C.rr l N) t).mp m) λu h _=>⟨u,h⟩,λm o e=>aD (C.tb m o e) λu h _=>(aZ h).1,i4 (bM (ip _ _ _) 0x1644701388514486441312914471281440012c5 rfl v x),i4 (bM (gF _ _) 0x1644701388513128437284 rfl z),?_,?_,?_,?_,λL top T=>?_⟩;·have:=s.m;have:=S.m;lia
 ·have:=s.u;have:=S.u;lia
 ·have:=s.a;have:=S.a;lia
 ·have:=s.w;have:=S.w;lia
 ·refine ay (f.Je (n:=n) j i or q Q T) λD X=>?_
  have c:=D.C;refine⟨c.uV,c.FQ,λp H e=>?_,λV A=>?_,c.wa _ (C.rn r R),?_,?_,Z D.Jz (KB B.xN (by decide))⟩
  ·replace H:=D.as▸H
   exact ay (C.an _ (C.rn l N) p H) λd g=>c.pa d g e
  ·refine ay (C.va _ (C.rn l N) (C.rr l N) V) λd G=>ay (C.va _ (C.rn r R) (C.rr r R) A) λg I=>?_
   have e:(b6 M l r w L top).Y (M.val (M.Y l))=(b6 M l r w L top).Y (M.val (M.Y r)):=by exact Z (D.jl _ (ce d)) (Z (D.jl _ (ce g)) (Z G (Z I (Z (if_pos rfl) (Z (if_neg i.symm) rfl)))))
   exact⟨ce d,ce g,e,c.pa (ce d) (ce g) e⟩
  ·refine Z D.a4 ?_
   have:=D.wl;exact i4 (bM (ip _ _ _) 0x1870138851312914470012c5138c3 rfl y this)
  ·have:=D.wl
   have:=D.tr;exact i4 (by lia)
theorem df.rb(f:df F M E ((a,b,w)::P))(y:M.aU=none)(i:M.Y l≠M.Y r)(or:(l=a/\r=b)\/(l=b/\r=a))(z:F.length<=20)(Q:M.aw.drop k=(a,b,w)::P)(B:rI n M)(T:iO M l r w N):
  ∃A,nM M E N A/\rI n N/\cls N+1=cls M/\N.aw.length<=M.aw.length+3/\M.aw.length<=N.aw.length/\((N.aU=none/\df F N A (N.aw.drop (k+1)))\/(N.aU≠none/\N.j3=N.am.length/\DD F)):=by
 have C:=f.C;refine ay (k2 C or) λj s=>?_;have K:=B.tr;have S:=B.nw;have G:=B.qu;induction T with
 |@jV L top N t V H T=>
  obtain⟨D,X⟩:=f.Je (n:=n) y i or z Q t;refine xb ((df.mk D.C (f.nc.join C j s i X V H) D.to).AP T) λW I c2 q c t2 r2 w2=>?_;have d1:=D.cl;have J:=D.tr;have m:=D.qu;have d4:=D.wl;have o:cls N=cls (b6 M l r w L top):=by delta cls oM;exact Z r2 rfl
  replace c:=D.a4▸c;refine⟨_,D.ext.trans I,⟨?_,?_,Z o (Z q (bM (lP _ _ _ _) 0x1284372841312a439284431138a1371339 rfl G (KQ d1) m)),Z I.am (Z D.Jz B.xN)⟩,Z o d1,Z q m,Z q D.qg,.inl ⟨c2.trans D.aU,Z q W⟩⟩;·refine Z o ?_;lia
  ·refine Z o ?_;lia
 |@aU L top x t h=>
  obtain⟨D,X⟩:=f.Je (n:=n) y i or z Q t;have d1:=D.cl;have J:=D.tr;have m:=D.qu;refine⟨_,D.ext.trans (⟨.aU,⟨[],(K8 _).symm⟩,λ_ _ h=>h,rfl,rfl,rfl,λ_ h=>.inl h⟩:nM (b6 M l r w L top) (E++[(l,r,w)]) ((b6 M l r w L top).eb (U x) (b6 M l r w L top).am.length) (E++[(l,r,w)])),⟨((bM (IA _ _ _ _ _) 0x12814471291440012c51312b144a1291440012c51441138b137183a rfl K (KQ d1) J):(b6 M l r w L top).ak.length+20*cls (b6 M l r w L top)<=_),?_,((bM (lP _ _ _ _) 0x1284372841312a439284431138a1371339 rfl G (KQ d1) m):(b6 M l r w L top).aw.length+4*cls (b6 M l r w L top)<=_),?_⟩,d1,m,D.qg,.inr ⟨λe=>(nomatch e),rfl,?_⟩⟩;·refine((Z D.a4 ?_):(b6 M l r w L top).a4.length+20*cls (b6 M l r w L top)<=_);exact bM (ip _ _ _) 0x12814470012c51312914470012c514411389 rfl S (KQ d1)
  ·refine((Z D.Jz ?_):(b6 M l r w L top).am.length<=_);exact B.xN
  ·refine KS h (λR=>ay R λv1 v2=>?_) λg=>aD g λp H e=>?_
   ·refine ay (C.va _ (C.rn l j) (C.rr l j) v1) λd u=>?_
    obtain⟨c,v⟩:=C.va _ (C.rn r s) (C.rr r s) v2;have e:(b6 M l r w L top).Y (M.val (M.Y l))=(b6 M l r w L top).Y (M.val (M.Y r)):=by exact Z (D.jl _ (ce d)) (Z (D.jl _ (ce c)) (Z u (Z v (Z (if_pos rfl) (Z (if_neg i.symm) rfl)))))
    have k:=D.C.eh (ce d) (ce c) e;rcases d with d |d<;>refine KS c (λc=>?_) λc=>?_
    ·exact(i (hR u (hR v (Z d (Z c rfl))))).elim
    ·replace k:=c▸d▸k;exact .inl k
    ·replace k:=c▸d▸k;exact .inl k.symm
    ·exact(i (hR u (hR v (Z d (Z c rfl))))).elim
   ·replace H:=D.as▸H
    obtain⟨d,c⟩:=C.an _ (C.rn l j) p H;exact .inr ⟨_,_,_,C.ap _ (C.rn l j) (C.rr l j) p H,D.C.eh d c e⟩
end
def CI(F:List bm)(n:Nat)(M0:Hs)(E0:List ci)(m k:Nat)(N:Hs):Prop:=∃E,nM M0 E0 N E/\rI n N/\k<=41/\((N.aU=KF/\df F N E (N.aw.drop k)/\k<=N.aw.length/\4*cls N+N.aw.length=m+k)\/(N.aU≠KF/\N.j3=N.am.length/\DD F))
def JC(F:List bm)(n:Nat)(M0:Hs)(E0:List ci)(N:Hs):Prop:=∃E,nM M0 E0 N E/\rI n N/\N.aw=[]/\((N.aU=KF/\df F N E [])\/(N.aU≠KF/\N.j3=N.am.length/\DD F))
theorem mL{a:Type}{l:List a}{k:Nat}{e:a}(h:l[k]? =U e):l.drop k=e::l.drop (k+1)/\k<l.length:=by obtain⟨lt,rfl⟩:=LC.mp h;exact⟨Ms lt,lt⟩
section
variable {M0 TZ:Hs} {E E0:List ci} {P q:List (Int×Int×Option Int)} {a b l r top m:Int} {w:Option Int} {L:List eN} {k:Nat}
theorem cN.skip(C:cN F M E ((a,b,w)::P))(e:M.Y a=M.Y b):cN F M E P:=by
 refine⟨C.1,C.2,C.3,C.4,C.5,C.6,C.7,C.8,C.9,C.10,C.11,C.12,C.13,C.14,C.15,C.16,C.17,λt u h=>?_,λe m=>C.pn e (KP _ m),λm x y h=>?_,C.21,C.22,C.23,C.24⟩
 ·refine aD (C.tq t u h) λo H h2=>⟨o,H,?_⟩
  rcases h2 with h2 |h2
  ·exact .inl h2
  ·rcases KM.mp h2 with h2 |h2
   ·clear h H C;cases h2;exact .inl e.symm
   ·exact .inr h2
 ·rcases C.ti m x y h with h |h
  ·exact .inl h
  ·rcases KM.mp h with h |h
   ·clear C;cases h;exact .inl e
   ·exact .inr h
theorem Ij(h:aj a)(e:M.Y a=a):0<cls M:=K6 Nat.zero_lt_one (lg (f:=λ_=>1) h e)
theorem Cq(p:F.length<=20)(u:n<=100):mU (CI F n M0 E0):=by
 refine⟨λm k N i=>?_,λm k N l r w i c q=>?_,λm k N i c=>?_,λm k N i c t T=>?_,λm k N l r w i c q d=>?_,λm k N l r w i c q d=>?_,λm k N l r w M i c q d TZ=>?_⟩
 ·refine lf i λE x B K _=>?_
  have:=B.qu;exact⟨by lia,by lia⟩
 ·obtain⟨E,x,B,K,h |h⟩:=i
  ·refine cH h λ_ f _=>?_
   rw[(mL q).1] at f;exact cH (f.C.pn _ KJ) λv y _=>⟨v,y⟩
  ·exact(h.1 c).elim
 ·obtain⟨E,x,B,K,h |h⟩:=i
  ·exact h.2.1.C.rn
  ·exact(h.1 c).elim
 ·obtain⟨E,x,B,K,h |h⟩:=i
  ·exact KB (h.2.1.C.ng T).m (by decide)
  ·exact(h.1 c).elim
 ·obtain⟨E,x,B,K,h |h⟩:=i
  ·refine fj h λ_ f z A=>?_
   obtain⟨H,s⟩:=mL q;replace f:=H▸f;have b:=B.qu;exact cH (f.C.pn _ KJ) λv y _=>⟨m-1,by omega,E,x,B,by lia,.inl ⟨c,⟨f.C.skip d,f.nc,f.to⟩,s,by lia⟩⟩
  ·exact(h.1 c).elim
 ·obtain⟨E,x,B,K,h |h⟩:=i
  ·refine fj h λ_ f z A=>?_
   obtain⟨H,s⟩:=mL q;have a:=f;simp only[H] at a;exact⟨λ_=>a.JP (k:=k) c d (.inl ⟨rfl,rfl⟩) p u H B,λ_=>a.JP (k:=k) c (λe=>d e.symm) (.inr ⟨rfl,rfl⟩) p u H B⟩
  ·exact(h.1 c).elim
 ·obtain⟨E,x,B,K,h |h⟩:=i
  ·refine fj h λ_ f z A=>?_
   obtain⟨H,s⟩:=mL q;have a:=f;simp only[H] at a;have b:=B.qu;have key:∃g,nM N E M g/\rI n M/\cls M+1=cls N/\M.aw.length<=N.aw.length+3/\N.aw.length<=M.aw.length/\((M.aU=KF/\df F M g (M.aw.drop (k+1)))\/(M.aU≠KF/\M.j3=M.am.length/\DD F)):=by exact KS TZ (λR=>ay R λ_ TZ=>a.rb c d (.inl ⟨rfl,rfl⟩) p H B TZ) λj=>ay j λ_ TZ=>a.rb c (λe=>d e.symm) (.inr ⟨rfl,rfl⟩) p H B TZ
   exact Gx key λg X C c' Q g' h'=>KS h' (λo=>ay o λD G=>⟨4*cls M+M.aw.length-(k+1),by omega,g,x.trans X,C,by omega,.inl ⟨D,G,KB s g',by lia⟩⟩) λh'=>⟨0,by lia,g,x.trans X,C,by omega,.inr h'⟩
  ·exact(h.1 c).elim
theorem df.EL(f:df F M E [])(n:aj a)(N:aj b):df (F++[⟨true,a,b,m⟩]) M E [(a,b,U m)]:=by
 have C:=f.C;have sub:∀f∈F,f∈F++[⟨true,a,b,m⟩]:=λf h=>KZ _ h;have P:∀{d x y},sA (F++[⟨true,a,b,m⟩]) d x y->sA F d x y:=λh=>(KW.mp h).resolve_right λh=>by cases KG.mp h
 refine⟨⟨C.1,C.2,C.gr.bv λm x y h=>h.imp (sub _) (sub _),C.4,C.5,C.6,C.7,C.8,C.9,C.10,λt T r p h=>sub _ (C.ap t T r p h),C.12,λm x y h=>C.ac m x y (P h),λg h=>?_,C.15,C.16,C.17,λt u h=>aD (C.tq t u h) λo H i=>⟨o,H,.inl (i.resolve_right λh=>nomatch h)⟩,λe h=>?_,λd x y h=>?_,C.21,C.22,Z KH (KB C.b3 (Nt 2 (Lf _ _))),C.24⟩,⟨f.nc.nv,λm x y h=>f.nc.np m x y (P h)⟩,λt c h=>aD (f.to t c h) λp H i=>⟨p,H,i.bv sub λ_ h=>h⟩⟩
 ·rcases KW.mp h with h |h
  ·exact C.fn g h
  ·cases KG.mp h;exact⟨n,N⟩
 ·cases KG.mp h
  exact⟨n,N,λd e=>by(replace e:=KC e;subst e);exact .inl (K1 _ (Lc _)),λe=>(nomatch e)⟩
 ·rcases KW.mp h with h |h
  ·exact .inl ((C.ti d x y h).resolve_right λh=>nomatch h)
  ·cases KG.mp h;exact .inr (Lc _)
theorem Jt{a:Type}{f:Int->List a}{g h:Int}{p:a}(n:g≠h)(t:Int):aH (aH f g (f g++[p])) h (f h++[p]) t=if t=g\/t=h then f t++[p] else f t:=by
 by_cases c:t=h;·clear n;subst c;(rw[ai.M.aP];exact Z (if_pos (.inr rfl)) rfl)
 ·rw[ai.M.aI _ _ c]
  by_cases C:t=g;·clear n;subst C;(rw[ai.M.aP];exact Z (if_pos (.inl rfl)) rfl)
  ·rw[ai.M.aI _ _ C,if_neg λh=>h.elim C c]
theorem df.EX(f:df F M E [])(n:aj a)(N:aj b)(l:M.Y a≠M.Y b):df (F++[⟨false,a,b,m⟩]) (hG M a b m) E []:=by
 have C:=f.C;have sub:∀f∈F,f∈F++[⟨false,a,b,m⟩]:=λf h=>KZ _ h;have P:∀{i x y},sA (F++[⟨false,a,b,m⟩]) i x y->sA F i x y\/(x=a/\y=b/\i=m):=λh=>(KW.mp h).imp id λh=>by cases KG.mp h;exact⟨rfl,rfl,rfl⟩
 have A:∀t,(hG M a b m).bl t=if t=M.Y a\/t=M.Y b then M.bl t++[(a,b,m)] else M.bl t:=λt=>Jt l t
 have o:∀{t p},p∈(hG M a b m).bl t->p∈M.bl t\/p=(a,b,m):=λ{t p} h=>by
  rw[A] at h;split at h;·exact(KW.mp h).imp id KG.mp
  ·exact .inl h
 have q:∀{t p},p∈M.bl t->p∈(hG M a b m).bl t:=λ{t p} h=>by
  rw[A];split;·exact KZ _ h
  ·exact h
 refine⟨⟨C.1,C.2,C.gr.bv λm x y h=>h.imp (sub _) (sub _),C.4,C.5,C.6,C.7,C.8,C.9,C.10,λt T r p h=>?_,λt T p h=>?_,λi x y h=>?_,λg h=>?_,C.15,C.16,C.17,C.18,λ_ h=>(nomatch h),λi x y h=>?_,C.21,C.22,?_,C.24⟩,⟨f.nc.nv,λi x y h=>?_⟩,λt c h=>aD (f.to t c h) λp H s=>⟨p,H,s.bv sub λ_ h=>h⟩⟩
 ·rcases o h with h |rfl
  ·exact sub _ (C.ap t T r p h)
  ·exact(K1 _ (Lc _):sA (F++[⟨false,a,b,m⟩]) m a b)
 ·rcases o h with h |rfl
  ·exact C.an t T p h
  ·exact⟨n,N⟩
 ·clear n l N o sub;rcases P h with h |⟨rfl,rfl,rfl⟩
  ·obtain⟨H,s⟩:=C.ac i x y h
   exact⟨q H,q s⟩
  ·refine(?_ :_∈(hG M x y i).bl (M.Y x)/\_∈(hG M x y i).bl (M.Y y))
   (refine Z (A _) (Z (A _) (Z (if_pos (.inl rfl)) (Z (if_pos (.inr rfl)) ?_))))
   exact⟨K1 _ (Lc _),K1 _ (Lc _)⟩
 ·rcases KW.mp h with h |h
  ·exact C.fn g h
  ·cases KG.mp h;exact⟨n,N⟩
 ·rcases KW.mp h with h |h
  ·exact C.ti i x y h
  ·cases KG.mp h
 ·have X:=nT (h:=λt=>if M.Y t=t then(M.bl t).length else 0) (g:=M.Y a) (d:=1) dw
  have u:=nT (h:=λt=>if t=M.Y a then(if M.Y t=t then(M.bl t).length else 0)+1 else(if M.Y t=t then(M.bl t).length else 0)) (g:=M.Y b) (d:=1) dw;replace X:=(if_pos (aR (C.rn a n)))▸X;rw[if_pos (aR (C.rn b N)),X] at u;have e:oM (hG M a b m) (λt=>((hG M a b m).bl t).length)=oM M (λt=>(M.bl t).length)+1+1:=by
   refine Rd (iy λt v=>((Z (A _) ?_):(if M.Y t=t then((hG M a b m).bl t).length else 0)=_)) u;by_cases j:t=M.Y b
   ·have r:M.Y t=t:=Z j (C.rr b N)
    (refine Z (if_pos r) (Z (if_pos (.inr j)) (Z (if_pos j) (Z (if_neg λh=>l (h.symm.trans j)) (Z (if_pos r) (Z KH ?_))))));rfl
   ·rw[if_neg j]
    by_cases k:t=M.Y a
    ·have r:M.Y t=t:=Z k (C.rr a n)
     refine Z (if_pos r) (Z (if_pos (.inl k)) (Z (if_pos k) (Z (if_pos r) (Z KH ?_))));rfl
    ·exact Z (if_neg (c:=t=M.Y a\/t=M.Y b) λh=>h.elim k j) (Z (if_neg k) rfl)
  refine Z e (Z KH ?_);have:=C.b3;refine(?_ :_<=2*(F.length+1));lia
 ·clear n N q o A sub;rcases P h with h |⟨rfl,rfl,rfl⟩
  ·exact f.nc.np i x y h
  ·exact l
end
section
variable {E:List ci} {a b m:Int} {j:Nat}
theorem A7(R:AR h A)(H:ah A M)(f:df F M E [])(u:F.length<20)(v:n<=100)(B:rI n M)(C:M.aU=KF)(w:M.aw=[])(s:aj a)(t:aj b)
  (q:∀h' l N,AR h' l->ah l N->Fr pL A l->JC (F++[⟨true,a,b,m⟩]) n M E N->Q .none h'):cw (j+7) "merge" [Me,.int a,.int b,.int m] Q h:=by
 have G:=hP M;have g:=f.EL (m:=m) s t;refine Hb (Cq (F:=F++[⟨true,a,b,m⟩]) (M0:=M) (E0:=E) (n:=n) (Z KH u) v) R H s t w (m:=4*cls M+1) ⟨E,(⟨.aw,⟨[],(K8 _).symm⟩,λ_ _ h=>h,rfl,rfl,rfl,λ_ h=>.inl h⟩:nM M E (M.cW [(a,b,U m)]) E),⟨B.tr,B.nw,?_,B.xN⟩,K3 _,.inl ⟨C,(⟨g.C.cg rfl rfl rfl rfl rfl rfl rfl rfl rfl,⟨g.nc.nv,g.nc.np⟩,g.to⟩:df (F++[⟨true,a,b,m⟩]) (M.cW [(a,b,U m)]) E [(a,b,U m)]),K3 _,rfl⟩⟩ λo I J k N y z D i d=>?_;·refine(?_ :1+4*cls M<=40);lia
 refine lf i λE1 x p K h=>q _ _ _ y z D ⟨E1,⟨x.bk.trans .aw,x.pre,x.a7,x.aC,x.am,x.cd,x.a4⟩,⟨p.tr,p.nw,?_,p.xN⟩,rfl,?_⟩
 ·refine(?_ :0+4*cls N<=40)
  have:=hP N;lia
 ·refine KS h (λr=>fj r λo c L P=>?_) λh=>.inr h
  ·simp only[MD (d.resolve_left λe=>e o)] at c
   exact .inl ⟨o,c.C.cg rfl rfl rfl rfl rfl rfl rfl rfl rfl,⟨c.nc.nv,c.nc.np⟩,c.to⟩
theorem sS(R:AR h A)(H:ah A M)(f:df F M E [])(W:F.length<20)(hn:n<100)(B:rI n M)(k:M.aU=KF)(i:M.aw=[])(hw:M.a4.length<=100)(d:aj a)(g:aj b)
  (q:∀h' o N,AR h' o->ah o N->Fr pL A o->JC (F++[⟨false,a,b,m⟩]) (n+1) M E N->Q .none h'):cw (j+5) "separate" [Me,.int a,.int b,.int m] Q h:=by
 have C:=f.C;have B0:=hP M;have b1:=B.tr;have p:=B.xN;have b4:=B.qu;by_cases c:M.Y a=M.Y b
 ·refine ow R H C.uV d g i k c (C.pa d g c) (KB p (by decide)) λG I l r s t=>q _ _ _ r s t ⟨E,⟨.aU,⟨[],(K8 _).symm⟩,λ_ _ h=>h,rfl,rfl,rfl,λ_ h=>.inl h⟩,⟨?_,B.nw,b4,p⟩,i,.inr ⟨λe=>(nomatch e),rfl,?_⟩⟩
  ·refine(?_ :M.ak.length+20*cls M<=_);lia
  ·refine .inr ⟨m,a,b,K1 _ (Lc _),(C.eh d g c).bv λx y ⟨J,h⟩=>⟨J,h.imp (KZ _) (KZ _)⟩⟩
 ·have S:=C.ng d
  have v:=S.a;have w:=(C.ng g).a;have u3:=S.w;refine AU R H C.FQ d g i k c (KU v (K6 ((by omega:2*F.length<1000)) (by decide))) (KU w (K6 ((by omega:2*F.length<1000)) (by decide))) (i4 (by lia)) (i4 (by lia)) (C.wa _ (C.rn a d)) λG I N r s t T=>xb ((f.EX (m:=m) d g c).AP T) λK X L z D t2 P w2=>?_;have u:cls N=cls M:=by delta cls oM;refine Z P ?_;rfl
  have t3:(hG M a b m).ak.length=M.ak.length+1:=be _;have V:(hG M a b m).a4=M.a4:=rfl;replace D:=V▸D;refine q _ _ _ r s t ⟨E,(⟨.J4 (C.rn a d) (C.rn b g) c (KU v (K6 ((by omega:2*F.length<1000)) (by decide))) (KU w (K6 ((by omega:2*F.length<1000)) (by decide))),⟨[],(K8 _).symm⟩,λ_ _ h=>h,rfl,rfl,rfl,λ_ h=>.inl h⟩:nM M E (hG M a b m) E).trans X,⟨?_,?_,Z u (Z z (b4)),Z X.am p⟩,z.trans i,.inl ⟨L.trans k,K⟩⟩;·refine Z u ?_;lia
  ·refine Z u ?_;lia
end
open ai.M (ox)
noncomputable def keep(F:List bm)(l:List Int):List bm:=F.filter λf=>decide (f.m∈l)
theorem eE{F:List bm}{f:bm}:f∈keep F l↔f∈F/\f.m∈l:=by unfold keep;simp only[MA,decide_eq_true_iff]
def G4(F:List bm)(x y:Int):Prop:=∃p:Int×Int,(p=(7,8)\/∃m,sA F m p.1 p.2)/\((Cl (fW F) x p.1/\Cl (fW F) y p.2)\/(Cl (fW F) x p.2/\Cl (fW F) y p.1))
structure fR(F:List bm)(am l:List Int)(x y t:Int):Prop where
 s:l.Pairwise (·<·)
 k:∀r∈l,r∈am
 n:l.length<=19
 e:t=1->Cl (fW (keep F l)) x y
 a:t≠1->G4 (keep F l) x y/\¬Cl (fW (keep F l)) x y
structure lZ(F:List bm)(E:List ci)(x y:Int)(am:List Int):Prop where
 ex:∃E0 f E1 a,E=E0++E1/\F=f++a/\am=f.map (·.m)/\dR (zQ f) E0/\cf E0 x y
structure m5(F:List bm)(M:Hs)(E:List ci)(t T:Int)(am:List Int):Prop where
 ex:∃E0 f E1 a c p,E=E0++E1/\F=f++a/\am=f.map (·.m)/\dR (zQ f) E0/\M.a7 t=U c/\M.aC t=U p/\T=tr c/\F6 f E0 p c
section
variable {F0 F1:List bm} {E E0 E1:List ci} {x y r:Int} {l Uh:List Int}
theorem jk{T:Int->Int->Int->Prop}(g:dR T E){x y m}:(x,y,U m)∈E->T m x y:=by
 induction g with
 |nil=>intro h;cases h
 |jj _ t i=>intro h;refine KS (KW.mp h) (λh=>i h) λh=>?_;cases KG.mp h;exact t
 |args _ _ _ _ i=>intro h;refine KS (KW.mp h) (λh=>i h) λh=>?_;cases KG.mp h
theorem t7(h:zQ F m x y\/zQ F m y x):∃f∈F,f.m=m:=by rcases h with(h |h) |(h |h)<;>exact⟨_,h,rfl⟩
theorem nO(fo:b8 M.up E)(g:dR (zQ F0) E0)(s:∀e∈E0,e∈E)(c:cf E0 x y)(o:d6 M.up x y l):∀r∈l,∃f∈F0,f.m=r:=by refine ay o λ_ R=>lf R λX _ _ h H=>?_;intro r i;refine ay ((H r).mp i) λ_ a=>eH a λc' p j e=>eH (h _ (ai.M.vD fo g s) (λd k=>ai.M.kh fo s c k) c' j) λP w b m=>?_;replace b:=e▸b;(cases KC b);exact t7 (m.imp (jk g) (jk g))
theorem ry(C:cN F M E [])(hz:∀f∈F,f.m≠0)(c:cf E x y)(o:d6 M.up x y l):Cl (fW (keep F l)) x y:=by refine ay o λ_ r=>lf r λX H i _ j=>(ai.M.FV C.fo C.gr (X:=X) (R:=λm=>m∈l) H (λd p m n e=>(j m).mpr ⟨aD (t7 ((C.fo.2.1 _ _ _ e).imp (jk C.gr) (jk C.gr):zQ F m d p\/zQ F m p d)) λf q g=>?_,d,p,n,e⟩) c i).bv λa b ⟨m,k,K⟩=>⟨m,K.imp (λh=>eE.mpr ⟨h,k⟩) λh=>eE.mpr ⟨h,k⟩⟩;clear e;subst g;exact hz f q
theorem f8{L:List Int}(h:∀r∈l,r∈L)(c:Cl (fW (keep F l)) a b):Cl (fW (keep F L)) a b:=by have s:∀f∈keep F l,f∈keep F L:=λf m=>eE.mpr ⟨(eE.mp m).1,h _ (eE.mp m).2⟩;exact c.bv λx y ⟨m,k⟩=>⟨m,k.imp (s _) (s _)⟩
theorem oK(c:Cl (fW (keep F l)) a b):Cl (fW F) a b:=by exact c.bv λx y ⟨m,k⟩=>⟨m,k.imp (λh=>(eE.mp h).1) λh=>(eE.mp h).1⟩
theorem zG(C:cN F M E [])(hz:∀f∈F,f.m≠0)(h:lZ F E x y Uh)(o:d6 M.up x y l)(L:l.length<=19):fR F Uh l x y 1:=by refine B2 h.ex λE0 F0 E1 F1 a b d g c=>?_;subst a;subst b;clear h;subst d;refine⟨o.1,λr H=>aD (nO C.fo g (λe m=>KZ _ m) c o r H) λf j i=>?_,L,λ_=>ry C hz (c.bv λe m=>KZ _ m) o,λe=>(e rfl).elim⟩;clear H;subst i;exact Lo.mpr ⟨f,j,rfl⟩
theorem k3:r∈gv a b↔r∈a\/r∈b:=by unfold gv;simp only[hB,KW,MA,decide_eq_true_iff];exact⟨λh=>h.imp id λh=>h.1,λh=>(Decidable.em (r∈a)).elim .inl λn=>.inr ⟨h.resolve_left n,n⟩⟩
theorem kA(h:l.Pairwise (·<·)):l.Nodup:=h.imp λh e=>by subst e;exact SP _ h
theorem zU{a b:List Int}(h:a.Pairwise (·<·))(H:b.Pairwise (·<·)):(gv a b).Pairwise (·<·):=by refine mN (L7.mpr ⟨kA h,(kA H).filter _,λx X y c e=>?_⟩);subst e;exact of_decide_eq_true (MA.mp c).2 X
set_option tactic.hygienic true in
theorem jb:x∈eB l r↔x∈l\/(r≠0/\x=r):=by
 unfold eB
 split
 ·rename_i h
  exact⟨.inl,λk=>k.elim id λ⟨n,e⟩=>Z e (h.resolve_left n)⟩
 ·rename_i h
  simp only[not_or] at h
  simp only[hB,KW,KG]
  exact⟨λk=>k.imp id λe=>⟨h.1,e⟩,λk=>k.imp id λe=>e.2⟩
set_option tactic.hygienic true in
theorem z7(h:l.Pairwise (·<·)):(eB l r).Pairwise (·<·):=by
 unfold eB
 split
 ·exact h
 ·rename_i k
  simp only[not_or] at k
  exact mN (L7.mpr ⟨kA h,K9.mpr ⟨MH,Mk⟩,λx H y a e=>k.2 (hR (KG.mp a) (hR e H))⟩)
theorem D'(C:cN F M E [])(D:NC F M)(hz:∀f∈F,f.m≠0){c:Int×Int×Int}(G:E=E0++E1)(I:F=F0++F1)(g:dR (zQ F0) E0)(A:cf E0 x c.1)(B:cf E0 y c.2.1)(ok:wV F0 c)(u:d6 M.up x c.1 l)(v:d6 M.up y c.2.1 L)
  (J:(eB (gv l L) c.2.2).length<=19):fR F (F0.map (·.m)) (eB (gv l L) c.2.2) x y (-1):=by
 subst G I;have S:∀e∈E0,e∈E0++E1:=λe m=>KZ _ m;have t:∀f∈F0,f∈F0++F1:=λe m=>KZ _ m;have w:∀r∈l,r∈eB (gv l L) c.2.2:=λr h=>jb.mpr (.inl (k3.mpr (.inl h)));have z:∀r∈L,r∈eB (gv l L) c.2.2:=λr h=>jb.mpr (.inl (k3.mpr (.inr h)));have K:=ry C hz (A.bv S) u;have i:=ry C hz (B.bv S) v;refine⟨z7 (zU u.1 v.1),λr H=>?_,J,λe=>absurd e (by decide),λ_=>⟨?_,λk=>?_⟩⟩
 ·have key:∃f∈F0,f.m=r:=by
   rcases jb.mp H with h |⟨n,rfl⟩
   ·rcases k3.mp h with h |h
    ·exact nO C.fo g S A u r h
    ·exact nO C.fo g S B v r h
   ·rcases ok with h |h |h
    ·exact(n h.1).elim
    ·exact⟨_,h,rfl⟩
    ·exact⟨_,h,rfl⟩
  refine aD key λf Q j=>?_;clear key H;subst j;exact Lo.mpr ⟨f,Q,rfl⟩
 ·have P:∀{a b},sA F0 c.2.2 a b->sA (keep (F0++F1) (eB (gv l L) c.2.2)) c.2.2 a b:=λh=>eE.mpr ⟨t _ h,jb.mpr (.inr ⟨hz _ (t _ h),rfl⟩)⟩
  refine KS ok (λR=>fj R λ_ N d s=>?_) λo=>KS o (λh=>?_) λh=>?_
  ·refine⟨(7,8),.inl rfl,?_⟩
   have K:=f8 w K;have i:=f8 z i;refine KS N (λN=>?_) λN=>?_ <;>rcases d with d |d
   ·exact(s (N.trans d.symm)).elim
   ·rw[N] at K;rw[d] at i;exact .inl ⟨K,i⟩
   ·rw[N] at K;rw[d] at i;exact .inr ⟨K,i⟩
   ·exact(s (N.trans d.symm)).elim
  ·exact⟨(c.1,c.2.1),.inr ⟨_,P h⟩,.inl ⟨f8 w K,f8 z i⟩⟩
  ·exact⟨(c.2.1,c.1),.inr ⟨_,P h⟩,.inr ⟨f8 w K,f8 z i⟩⟩
 ·refine D.ue C ?_
  have k:=(oK K).symm.trans ((oK k).trans (oK i));refine KS ok (λp=>fj p λ_ N d s=>?_) λq=>KS q (λh=>?_) λh=>?_
  ·rcases N with N |N<;>rcases d with d |d
   ·exact(s (N.trans d.symm)).elim
   ·rw[N,d] at k;exact .inl k
   ·rw[N,d] at k;exact .inl k.symm
   ·exact(s (N.trans d.symm)).elim
  ·exact .inr ⟨_,_,_,t _ h,k⟩
  ·exact .inr ⟨_,_,_,t _ h,k.symm⟩
theorem fR.symm{t:Int}(h:fR F Uh l x y t):fR F Uh l y x t:=by exact⟨h.s,h.k,h.n,λe=>(h.e e).symm,λe=>ay (h.a e) λb H=>aD b λp a c=>⟨⟨p,a,c.elim (λk=>.inr ⟨k.2,k.1⟩) λk=>.inl ⟨k.2,k.1⟩⟩,λk=>H k.symm⟩⟩
end
section
variable {E:List ci} {x y t Uo:Int} {Uh:List Int} {j:Nat}
theorem uj(R:AR h A)(H:ah A M)(f:df F M E [])(hz:∀f∈F,f.m≠0)(nx:aj x)(n:aj y)(hd:lZ F E x y Uh)(q:∀h' i l,AR h' i->ah i M->Fr pX A i->fR F Uh l x y 1->Q (.fl (ae l)) h'):cw (j+2) "explain" [Me,.int x,.int y] Q h:=by
 have C:=f.C;have k:cf E x y:=by refine B2 hd.ex λE0 t E1 p a b d g c=>?_;subst a;clear C f hz;subst b;clear hd q;subst d;exact c.bv λe m=>KZ _ m
 have e:=(C.ro x y nx n).mpr k;exact hZ R H C.uV nx n e (C.pa nx n e) λu v l r s p o L=>q _ _ _ r s p (zG C hz hd o (KB L (by decide)))
theorem my(R:AR h A)(H:ah A M)(f:df F M E [])(hz:∀f∈F,f.m≠0)(hd:m5 F M E t Uo Uh)(q:∀h' u l p,M.aC t=U p->AR h' u->ah u M->Fr pX A u->fR F Uh l p.1 p.2 Uo->Q (.fl (ae l)) h'):cw (j+4) "explain_told" [Me,.int t] Q h:=by
 have C:=f.C;refine x4 hd.ex λE0 G E1 v c B w x I r=>pc r λg T S d k=>?_;obtain⟨a,b⟩:=B;subst d;refine cH (C.si _ _ S) λn N _=>?_;have y:∀e∈E0,e∈E:=λe m=>Z w (KZ _ m);have J:∀f∈G,f∈F:=λe m=>Z x (KZ _ m);clear r hd;induction c with
 |none=>have k:cf E0 a b:=k;have e:=(C.ro a b n N).mpr (k.bv y);exact md R H C.uV S T n N e (C.pa n N e) λX A1 l z D G1 o L=>q _ _ _ _ S z D G1 (zG C hz ⟨E0,G,E1,v,w,x,I,g,k⟩ o (KB L (by decide)))
 |some c=>
  refine cH k λK P ok=>?_;have s:aj c.1/\aj c.2.1:=by exact KS ok (λh=>⟨ce h.2.1,ce h.2.2.1⟩) λi=>KS i (λh=>C.fn _ (J _ h)) λh=>(C.fn _ (J _ h)).symm
  have V:=(C.ro a c.1 n s.1).mpr (K.bv y);have W:=(C.ro b c.2.1 N s.2).mpr (P.bv y);exact mz R H C.uV S T n N s.1 s.2 V W (C.pa n s.1 V) (C.pa N s.2 W) λX A1 l1 l2 z D v o1 o2 L=>q _ _ _ _ S z D v (Z I (D' C f.nc hz w x g K P ok o1 o2 L))
end
structure Ls where
 spot:Nat
 a0:List (List bm)
 wd:Int->Option (Int×Int)
 tl:Int->Option (Int×List Int×Nat)
 eq:List Int->Option (List Int×Nat)
 g:Int
noncomputable def dM(f:bm):V:=.aA [.str (if f.jj=true then "tie" else "part"),.int f.x,.int f.y,.int f.m]
noncomputable def ic(p:Int×List Int×Nat):V:=.aA [.int p.1,.fl (ae p.2.1),.int p.2.2]
noncomputable def jv(p:List Int×Nat):V:=.aA [.fl (ae p.1),.int p.2]
noncomputable def gw:List (List Int):=[[1,0],[2,0],[2,1],[3,0],[3,1],[3,2],[4,0],[4,1],[4,2],[4,3],[5,0],[5,1],[5,2],[5,3],[5,4],[6,0],[6,1],[6,2],[6,3],[6,4],[6,5],[7,0],[7,1],[7,2],[7,3],[7,4],[7,5],[7,6],[8,0],[8,1],[8,2],[8,3],[8,4],[8,5],[8,6],[8,7]]
noncomputable def aO(A:AH)(n:Nat):List V:=(LP n).map λ(i:Nat)=>V.ref (A.R 45 (i:Int))
noncomputable def zi(A:AH)(g:Int):List (String×V):=[("some",.fl (ae ar)),("inner",.ref (A.R 41 0)),("levels",.ref (A.R 44 0)),("watched",.ref (A.R 46 0)),("told",.ref (A.R 47 g)),("equal",.ref (A.R 48 g))]
structure ed(A:AH)(cs:List Int)(S:Ls):Prop where
 cl:cs.length<=50
 mX:A.o 40 0=U (.dS [("cells",.fl (ae cs)),("spot",.int S.spot)])
 gK:A.o 41 0=U (.dI ar λt=>(ai.M.arg t).map V.int)
 bJ:A.o 42 0=U (.dS (zi A S.g))
 a0:A.o 44 0=U (.list (aO A S.a0.length))
 la:∀(i:Nat) l,S.a0[i]? =U l->A.o 45 (i:Int)=U (.list (l.map dM))
 wd:A.o 46 0=U (.dI fC λt=>(S.wd t).map b')
 tl:A.o 47 S.g=U (.dI fC λt=>(S.tl t).map ic)
 eq:A.o 48 S.g=U (.dP gw λt=>(S.eq t).map jv)
noncomputable def p4(k:Nat):Bool:=LA 39 k&&LA k 49
theorem na(k:Nat)(h:p4 k=true):pL k=true:=by have H:=((Lu ..).mp ((h:(LA 39 k&&LA k 49)=true))).1;simp only[MZ] at H;unfold pL;refine Z (show LA 30 k=true from by rw[MZ];exact bM (kT _) 0x1131e47131132747 rfl H) ?_;rfl
theorem yd(k:Nat)(h:p4 k=true):pX k=true:=pQ k (na k h)
theorem Hv(k:Nat)(h:p4 k=true):pU k=true:=by
 unfold pU;have h':=h;unfold p4 at h';have H:=((Lu ..).mp h').1;have c:∀j,LA 39 j=false->Lk k j=false:=λj a=>by
  induction q:Lk k j with
  |false=>rfl
  |true=>rw[L0 q,a] at H;exact aK H
 simp only[na k h,c 25 rfl,c 26 rfl];rfl
variable {A':AH} {cs:List Int} {S:Ls}
theorem ug(f:Fr p4 A A')(n:Nat):aO A' n=aO A n:=by unfold aO;exact Mm λi _=>congrArg V.ref (cJ f rfl)
theorem FK(f:Fr p4 A A')(g:Int):zi A' g=zi A g:=by unfold zi;simp only[cJ f (k:=41) rfl,cJ f (k:=44) rfl,cJ f (k:=46) rfl,cJ f (k:=47) rfl,cJ f (k:=48) rfl]
theorem ed.fr(L:ed A cs S)(f:Fr p4 A A'):ed A' cs S:=
 ⟨L.cl,(f 40 0 rfl).1.trans L.mX,(f 41 0 rfl).1.trans L.gK,(f 42 0 rfl).1.trans (L.bJ.trans (Z (FK f _) rfl)),(f 44 0 rfl).1.trans (L.a0.trans (Z (ug f _) rfl)),λi l e=>(f 45 i rfl).1.trans (L.la i l e),(f 46 0 rfl).1.trans L.wd,(f 47 _ rfl).1.trans L.tl,(f 48 _ rfl).1.trans L.eq⟩
noncomputable abbrev lw(n:Nat)(m:String):=a5 G1 T1 n m
noncomputable def Iy(k:Nat):Bool:=!(Lk k 40)
theorem wO{a b:Int}(H:0<b)(q:Q (.int (a %b)) h):ub .Cy (.int a) (.int b) Q h:=⟨H,q⟩
theorem qp(H:fits a)(B:fits b)(q:Q (.int (a*b)) h):ub .mul (.int a) (.int b) Q h:=⟨H,B,q⟩
theorem ot(H:fits a)(B:fits b)(q:Q (.int (a+b)) h):ub .add (.int a) (.int b) Q h:=⟨H,B,q⟩
theorem nx{P:PS}(q:P .next J h):St.bh G1 C [] J P h:=q
theorem rt{P:PS}(q:ai.Ex.wp G1 C e J (Gj P J) h):St.bh G1 C [.ret e] J P h:=q
theorem eg(q:ai.Ex.wp G1 C a J (oo (ai.Ex.wp G1 C b J) (GG op Q)) h):ai.Ex.wp G1 C (.hQ op a b) J Q h:=q
theorem lh(q:ai.Ex.bh G1 C es J (Jb b Q) h):ai.Ex.wp G1 C (.bi b es) J Q h:=q
theorem av{P:List V->Hp->Prop}(q:ai.Ex.wp G1 C e J (oo (ai.Ex.bh G1 C es J) (Dl P)) h):ai.Ex.bh G1 C (e::es) J P h:=q
theorem zp(q:Q (.int a) h):qI .int [.int a] Q h:=q
theorem bZ{i:Int}(a:0<=i)(b:i<=1000000000):fits i:=⟨Mw (by decide) a,Mw b (by decide)⟩
theorem DU(R:AR h A){spot:Nat}(C:cs.length<=50)(of:A.o 40 0=U (.dS [("cells",.fl (ae cs)),("spot",.int spot)]))(s:spot<=1000){w:Int}(H:0<w)
  (q:∀v,0<=v->v<w->∀h',AR h' (A.set 40 0 (.dS [("cells",.fl (ae cs)),("spot",.int (spot+1))]))->Q (.int v) h'):lw (n+1) "_law_next" [.ref (A.R 40 0),.int w] Q h:=by
 refine ab vT ⟨rfl,dm R of (i:="spot") rfl ⟨aX rfl,⟨eD (KB s (by decide)),eD (k:=1) (by decide),zM (fs':=[("cells",.fl (ae cs)),("spot",.int (spot+1))]) R of (aX rfl) rfl λb r=>?_⟩⟩⟩;have L:(ae cs).length<=50:=Z (bb _) C;have l:(A.set 40 0 (.dS [("cells",.fl (ae cs)),("spot",.int (spot+1))])).o 40 0=U (.dS [("cells",.fl (ae cs)),("spot",.int (spot+1))]):=rfl;refine dm (A:=A.set 40 0 _) r l (i:="cells") rfl ⟨KB L (by decide),?_⟩;by_cases c:spot<cs.length
 ·refine ab (a:=true) (congrArg U (decide_eq_true (Z (bb _) (M1.mpr c)))) ?_
  have E:jt (ae cs) (spot:Int)=U (.int cs[spot]):=by refine Z (ia _ _) ?_;unfold ae;refine Z (Mz) (Z (LV c) ?_);rfl
  refine bW rfl (dm (A:=A.set 40 0 _) r l (i:="cells") rfl (aB rfl (ab E (ax (zp (aB rfl (wO H ?_)))))));exact⟨_,_,.refl,q _ (OI _ (N9 H)) (Oe _ H) _ r⟩
 ·refine ab (a:=false) (congrArg U (decide_eq_false (Z (bb _) λe=>c (M1.mp e)))) ?_
  have s0:(0:Int)<=(spot:Int):=Lw _;have d:11*(spot:Int)*spot<=11000000:=by exact(Int.mul_le_mul (by lia) (MF.mpr s:(spot:Int)<=1000) s0 (by decide):11*(spot:Int)*spot<=11000*1000)
  have S:0<=11*(spot:Int)*spot:=Int.mul_nonneg (by omega) s0;refine bI rfl (nx (rt (eg (eg (lh (av (eg (eg (eg (eg (aS (aB rfl (qp (bZ (by decide) (by decide)) (bZ s0 (by omega)) (aB rfl ?_))))))))))))));refine qp (bZ (by omega) (by lia)) (bZ s0 (by omega)) (eg (aS (aB rfl (qp (bZ (by decide) (by decide)) (bZ s0 (by omega)) (ot (bZ S (by omega)) (bZ (by omega) (by lia)) (eg (aS ?_)))))));refine lh (av (dm (A:=A.set 40 0 _) r l (i:="cells") rfl (ax ⟨KB L (by decide),qp (bZ (by decide) (by decide)) (bZ (Lw _:(0:Int)<=((ae cs).length:Int)) (by lia)) (ot (bZ (by omega) (by omega)) (bZ (by lia) (by lia)) (ax (zp ?_)))⟩)));exact aS (wO (by decide) (aB rfl (wO H ⟨_,_,.refl,q _ (OI _ (N9 H)) (Oe _ H) _ r⟩)))
theorem next(R:AR h A)(L:ed A cs S)(s:S.spot<=1000){w:Int}(H:0<w)(q:∀v,0<=v->v<w->∀h' A',AR h' A'->ed A' cs {S with spot:=S.spot+1}->Fr Iy A A'->A'.R 40 0=A.R 40 0->Q (.int v) h'):lw (n+1) "_law_next" [.ref (A.R 40 0),.int w] Q h:=
 DU R L.cl L.mX s H λv V a b r=>q v V a _ _ r ⟨L.cl,rfl,L.gK,L.bJ,L.a0,L.la,L.wd,L.tl,L.eq⟩ (.set rfl) rfl
theorem CR{v:V}{l:List V}(e:(aO A n).drop i=v::l):i<n/\v=.ref (A.R 45 (i:Int))/\l=(aO A n).drop (i+1):=by
 have H:(aO A n).length=n:=by unfold aO;(exact Z (KE _) (Z LN rfl))
 have lt:i<n:=by refine KS (OF i n) (λh=>h) λh=>?_;replace e:=(MD (Z H h))▸e;exact(nomatch e)
 replace e:=(Ms (Z H lt))▸e;injection e with E a;refine⟨lt,hR E ?_,a.symm⟩;unfold aO;exact Z (RD _) (Z (Q' _) rfl)
theorem qH(l:List (List bm))(i:Nat):(l.take i).flatten.length<=l.flatten.length:=by
 conv=>rhs;rw[<-QI i l]
 exact Z N4 (Z KH (Lf _ _))
inductive SI(A:AH)(S:Ls)(H:Hp)(l:List V)(J:aV)(h:Hp):Prop
 |mk (i:Nat) (x:Option V) (e:h=H) (I:i<=S.a0.length) (E:l=(aO A S.a0.length).drop i) (d':J=[U (.ref (A.R 42 0)),U (.fl ((S.a0.take i).flatten.map dM)),x])
theorem xT{l:List (List bm)}{i:Nat}(lt:i<l.length):(l.take i).flatten.map dM++(l[i]).map dM=(l.take (i+1)).flatten.map dM:=by refine Z (Pu lt:l.take (i+1)=l.take i++[l[i]]) (Z N4 (Z La ?_));simp
theorem sr(R:AR h A)(L:ed A cs S)(B:S.a0.flatten.length<=1000)(q:Q (.fl (S.a0.flatten.map dM)) h):lw (n+1) "_law_standing" [.ref (A.R 42 0)] Q h:=by
 refine ab m6 ⟨rfl,bz (K3 _) ⟨aX rfl,dm R L.bJ (i:="levels") rfl (ab (cU R L.a0) (i0 (xs:=aO A S.a0.length) (SI A S h) (λl J h' i=>match i with |⟨_,_,e,_,_,_⟩=>Z e (R.io L.a0)) ?_ ?_ ⟨0,_,rfl,K3 _,rfl,rfl⟩))⟩⟩
 ·intro v l J h' K V I k
  obtain⟨i,x,H,g,b,d'⟩:=I;clear q;subst H d';refine cH (CR b.symm) λlt E a=>?_;clear V;subst E;clear b;subst a;have f:=xT lt;have c:((S.a0.take i).flatten.map dM++(S.a0[i]).map dM).length<=1000:=by(refine Z f (Z (KE _) ?_));exact KB (qH S.a0 (i+1)) B
  have d:=KB (KQ KH.symm) (KB c (by decide:1000<=aN));exact⟨aX rfl,Ag (bT R (L.la i _ (LV lt))) (KB (Lf _ _) d) (KB (M3 _ _) d) (bz (KB c (by decide)) ⟨aX rfl,f▸(k _ _ ⟨i+1,_,rfl,lt,rfl,rfl⟩)⟩)⟩
 ·intro J h' I
  obtain⟨i,x,H,g,b,d'⟩:=I;clear R;subst H d';have j:(aO A S.a0.length).length=S.a0.length:=by unfold aO;(exact Z (KE _) (Z LN rfl))
  exact Z (NF (hR j (QV.mp b.symm))) ⟨_,_,.refl,q⟩
noncomputable def eS(c:Int->Int)(o n:Int):Int->Int:=λt=>if c t=o then n else c t
noncomputable def qn(s:(Int->Int)×Bool)(p:Int×Int):(Int->Int)×Bool:=if s.1 p.1=s.1 p.2 then s else(eS s.1 (s.1 p.1) (s.1 p.2),true)
noncomputable def yR(s:(Int->Int)×Bool)(P:List (Int×Int)):(Int->Int)×Bool:=P.foldl qn s
noncomputable def sv:List Int:=[0,1,2,3,4,5,6,7,8]
noncomputable def tO(c:Int->Int):Nat:=(sv.filter λk=>ar.any λt=>c t==k).length
theorem D6(s:(Int->Int)×Bool)(P:List (Int×Int))(p:Int×Int):yR s (P++[p])=qn (yR s P) p:=M7
structure h0(T:Int->Int->Prop)(c:Int->Int)(done:List (Int×Int))(s:(Int->Int)×Bool):Prop where
 bv:∀a b,c a=c b->s.1 a=s.1 b
 eq:∀p∈done,s.1 p.1=s.1 p.2
 same:s.2=false->s.1=c
 eh:∀a b,aj a->aj b->s.1 a=s.1 b->Cl T a b
 lb:∀t,aj t->s.1 t∈sv
 CQ:tO s.1<=tO c
 lt:s.2=true->tO s.1<tO c
theorem iQ{c:Int->Int}{k:Int}:(ar.any λt=>c t==k)=true↔∃t,aj t/\c t=k:=by
 refine iR RH ?_;constructor;·rintro q;exact aD q λt m e=>⟨t,hV m,beq_iff_eq.mp e⟩
 ·rintro Q;exact aD Q λt n e=>⟨t,aR n,beq_iff_eq.mpr e⟩
set_option tactic.hygienic true in
theorem h0.step{T:Int->Int->Prop}{g:Int->Int}{done:List (Int×Int)}{s:(Int->Int)×Bool}(k:h0 T g done s){p:Int×Int}(n:aj p.1)(N:aj p.2)(H:Cl T p.1 p.2):h0 T g (done++[p]) (qn s p):=by
 unfold qn
 by_cases c:s.1 p.1=s.1 p.2
 ·refine Z (if_pos c) ⟨k.bv,λq m=>KS (KW.mp m) (λm=>k.eq q m) λm=>?_,k.same,k.eh,k.lb,k.CQ,k.lt⟩
  cases KG.mp m;exact c
 ·refine Z (if_neg c) ?_
  have re:∀{a b},s.1 a=s.1 b->eS s.1 (s.1 p.1) (s.1 p.2) a=eS s.1 (s.1 p.1) (s.1 p.2) b:=λe=>by unfold eS;exact Z e rfl
  have lt:tO (eS s.1 (s.1 p.1) (s.1 p.2))+1<=tO s.1:=by
   refine wm (c:=s.1 p.1) (iQ.mpr ⟨_,n,rfl⟩) ?_ (λx h=>?_) sv (k.lb _ n)
   ·simp only[Bool.eq_false_iff]
    intro h
    refine aD (iQ.mp h) λt d e=>?_
    unfold eS at e
    split at e
    ·exact c e.symm
    ·rename_i q;exact q e
   ·refine aD (iQ.mp h) λt d e=>?_
    unfold eS at e
    split at e
    ·exact iQ.mpr ⟨_,N,e⟩
    ·exact iQ.mpr ⟨t,d,e⟩
  refine⟨λa b e=>re (k.bv a b e),λq m=>?_,λe=>(nomatch e),λa b f B e=>?_,λt d=>?_,KB (Lq lt) k.CQ,λ_=>K6 lt k.CQ⟩
  ·refine KS (KW.mp m) (λm=>re (k.eq q m)) λm=>?_
   ·cases KG.mp m
    refine(?_ :eS _ _ _ _=eS _ _ _ _)
    unfold eS
    exact Z (if_pos rfl) (Z (if_neg λe=>c e.symm) rfl)
  ·have e:eS s.1 (s.1 p.1) (s.1 p.2) a=eS s.1 (s.1 p.1) (s.1 p.2) b:=e
   unfold eS at e
   by_cases A:s.1 a=s.1 p.1
   ·by_cases C:s.1 b=s.1 p.1
    ·exact k.eh a b f B (A.trans C.symm)
    ·rw[if_pos A,if_neg C] at e
     exact(k.eh a p.1 f n A).trans (H.trans (k.eh p.2 b N B e))
   ·by_cases C:s.1 b=s.1 p.1
    ·rw[if_neg A,if_pos C] at e
     exact(k.eh a p.2 f N e).trans (H.symm.trans (k.eh p.1 b n B C.symm))
    ·rw[if_neg A,if_neg C] at e
     exact k.eh a b f B e
  ·refine(?_ :eS _ _ _ t∈sv)
   unfold eS
   split
   ·exact k.lb _ N
   ·exact k.lb _ d
noncomputable def oh(c:Int->Int)(P:List (Int×Int))(a b u v:Int):List (Int×Int):=if c u=c v then P++[(a,b)] else P
noncomputable def f7(c:Int->Int)(P:List (Int×Int)):List (Int×Int):=oh c (oh c (oh c P 10 9 4 3) 11 9 5 3) 11 10 5 4
theorem tR(c:Int->Int)(P:List (Int×Int))(a b u v:Int):(oh c P a b u v).length<=P.length+1:=by
 unfold oh;split;·exact KQ (be _)
 ·exact Lv _
set_option tactic.hygienic true in
theorem oD{c:Int->Int}{P:List (Int×Int)}{p:Int×Int}:p∈oh c P a b u v↔p∈P\/(c u=c v/\p=(a,b)):=by
 unfold oh
 split
 ·rename_i h
  simp only[KW,KG]
  exact⟨λk=>k.imp id λe=>⟨h,e⟩,λk=>k.imp id λe=>e.2⟩
 ·rename_i h
  exact⟨.inl,λk=>k.elim id λe=>(h e.1).elim⟩
theorem hs{c:Int->Int}{P:List (Int×Int)}{p:Int×Int}:p∈f7 c P↔p∈P\/(c 4=c 3/\p=(10,9))\/(c 5=c 3/\p=(11,9))\/(c 5=c 4/\p=(11,10)):=by unfold f7;simp only[oD,oD,oD,or_assoc,or_assoc]
noncomputable def ml(F:List bm):List (Int×Int):=F.filterMap λf=>if f.jj=true then U (f.x,f.y) else KF
set_option tactic.hygienic true in
theorem od{F:List bm}{p:Int×Int}:p∈ml F↔∃m,(⟨true,p.1,p.2,m⟩:bm)∈F:=by
 unfold ml
 refine iR Ny ?_
 constructor
 ·rintro q;refine aD q λb a H=>?_;obtain⟨t,x,y,m⟩:=b
  dsimp only at H
  split at H
  ·rename_i T
   (replace H:=KC H;clear q;subst H);subst T
   exact⟨m,a⟩
  ·exact al H
 ·rintro Q;refine cV Q λm h=>?_
  exact⟨_,h,if_pos rfl⟩
structure iP(F:List bm)(c:Int->Int)(b:Bool)(P:List (Int×Int)):Prop where
 eh:∀x y,aj x->aj y->c x=c y->Cl (fW F) x y
 lb:∀t,aj t->c t∈sv
 EU:(P=ml F/\b=true)\/(P=[]/\∀p∈ml F,c p.1=c p.2)
 done:b=false->∀x y u v,ai.M.arg x=U u->ai.M.arg y=U v->c u=c v->c x=c y
theorem iP.start{F:List bm}:iP F (λt=>t-3) true (ml F):=
 ⟨λx y _ _ e=>(Int.sub_left_inj 3).mp e▸.refl,λt n=>by rcases c3 n with rfl |rfl |rfl |rfl |rfl |rfl |rfl |rfl |rfl<;>decide,.inl ⟨rfl,rfl⟩,λe=>nomatch e⟩
theorem iP.HR{F:List bm}{c:Int->Int}{b:Bool}{P:List (Int×Int)}(k:iP F c b P)(n:∀f∈F,aj f.x/\aj f.y):∀p∈f7 c P,aj p.1/\aj p.2/\Cl (fW F) p.1 p.2:=by
 intro p H;rcases hs.mp H with h |⟨h,rfl⟩ |⟨h,rfl⟩ |⟨h,rfl⟩
 ·refine KS k.EU (λr=>ay r λe _=>?_) λR=>ay R λe _=>?_
  ·rw[e] at h
   exact cV (od.mp h) λm h=>ay (n _ h) λN a=>⟨N,a,.jj ⟨m,.inl h⟩⟩
  ·rw[e] at h;exact(nomatch h)
 ·exact⟨by decide,by decide,.congr (u:=4) (v:=3) rfl rfl (k.eh 4 3 (by decide) (by decide) h)⟩
 ·exact⟨by decide,by decide,.congr (u:=5) (v:=3) rfl rfl (k.eh 5 3 (by decide) (by decide) h)⟩
 ·exact⟨by decide,by decide,.congr (u:=5) (v:=4) rfl rfl (k.eh 5 4 (by decide) (by decide) h)⟩
theorem h0.start{F:List bm}{c:Int->Int}{b:Bool}{P:List (Int×Int)}(k:iP F c b P):h0 (fW F) c [] (c,false):=
 ⟨λ_ _ e=>e,λ_ m=>(nomatch m),λ_=>rfl,k.eh,k.lb,KX _,λe=>(nomatch e)⟩
theorem iP.next{F:List bm}{c:Int->Int}{b:Bool}{P:List (Int×Int)}(k:iP F c b P){s:(Int->Int)×Bool}(o:h0 (fW F) c (f7 c P) s):iP F s.1 s.2 []:=by
 refine⟨o.eh,o.lb,.inr ⟨rfl,λp a=>KS k.EU (λr=>ay r λe _=>o.eq p (hs.mpr (.inl (Z e a)))) λR=>ay R λ_ e=>o.bv _ _ (e p a)⟩,λe x y u v g i H=>?_⟩
 ·have es:=o.same e
  rw[es] at H⊢;have E:∀p∈f7 c P,c p.1=c p.2:=λp a=>by have:=o.eq p a;rwa[es] at this
  have K:=λh=>E (10,9) (hs.mpr (.inr (.inl ⟨h,rfl⟩)));have d:=λh=>E (11,9) (hs.mpr (.inr (.inr (.inl ⟨h,rfl⟩))));have f:=λh=>E (11,10) (hs.mpr (.inr (.inr (.inr ⟨h,rfl⟩))));rcases f9 g with⟨rfl,rfl⟩ |⟨rfl,rfl⟩ |⟨rfl,rfl⟩<;>rcases f9 i with⟨rfl,rfl⟩ |⟨rfl,rfl⟩ |⟨rfl,rfl⟩
  ·rfl
  ·exact(K H.symm).symm
  ·exact(d H.symm).symm
  ·exact K H
  ·rfl
  ·exact(f H.symm).symm
  ·exact d H
  ·exact f H
  ·rfl
def EE(F:List bm)(c:Int->Int):Prop:=∀x y,aj x->aj y->(c x=c y↔Cl (fW F) x y)
theorem iP.cY{F:List bm}{c:Int->Int}{P:List (Int×Int)}(k:iP F c false P):EE F c:=by
 intro x y nx n;refine⟨k.eh x y nx n,λh=>?_⟩;clear nx n;have t:∀p∈ml F,c p.1=c p.2:=k.EU.elim (λh=>nomatch h.2) λh=>h.2;induction h with
 |jj h=>
  obtain⟨m,h |h⟩:=h;·exact t (_,_) (od.mpr ⟨m,h⟩)
  ·exact(t (_,_) (od.mpr ⟨m,h⟩)).symm
 |refl=>rfl
 |symm _ i=>exact i.symm
 |trans _ _ a b=>exact a.trans b
 |congr e E _ i=>exact k.done rfl _ _ _ _ e E i
noncomputable def pC(k:Nat):Bool:=!(Lk k 49||Lk k 50)
noncomputable def w1(i:Nat)(t:Int):Option V:=if 3<=t/\t<3+(i:Int) then U (.int (t-3)) else KF
noncomputable def l8(c:Int->Int)(o n:Int)(l:List Int):Int->Int:=λt=>if t∈l/\c t=o then n else c t
noncomputable def oI:List Int:=[9,10,11]
theorem ky{p:Nat->Bool}(f:Fr p A A'){k:Nat}:p k=true->A'.R k t=A.R k t:=λe=>cJ f e
theorem yk{i:Nat}(h:i<9):fd (w1 i) (3+(i:Int)) (U (.int i))=w1 (i+1):=by
 funext x;refine(?_ :(if x=3+(i:Int) then U (V.int i) else if 3<=x/\x<3+(i:Int) then U (V.int (x-3)) else KF)=if 3<=x/\x<3+((i+1:Nat):Int) then U (V.int (x-3)) else KF);by_cases c:x=3+(i:Int);·refine Z (if_pos c) (Z (if_pos (by omega)) (Z c ?_));congr;lia
 ·refine Z (if_neg c) ?_
  by_cases d:3<=x/\x<3+(i:Int);·exact Z (if_pos d) (Z (if_pos (by omega)) rfl)
  ·exact Z (if_neg d) (Z (if_neg (by omega)) rfl)
theorem xt:w1 9=hX λt=>t-3:=by
 funext x;refine(?_ :(if 3<=x/\x<3+((9:Nat):Int) then U (V.int (x-3)) else KF)=if aj x then _ else _);by_cases d:aj x;·exact Z (if_pos d) (Z (if_pos (by unfold aj at d;omega)) rfl)
 ·exact Z (if_neg d) (Z (if_neg (by unfold aj at d;omega)) rfl)
theorem je{i:Nat}(h:i<9):jt (ae ar) (i:Int)=U (.int (3+(i:Int))):=by refine(if_pos (Lw i)).trans ((Z (Mz) (Z ((by decide:∀i:Nat,i<9->ar[i]? =U (3+(i:Int))) i h) ?_)):(ar.map V.int)[i]? =_);rfl
theorem xL(c:Int->Int)(o n:Int):l8 c o n []=c:=by funext t;exact if_neg λh=>nomatch h.1
theorem xm(c:Int->Int)(o n:Int):hX (l8 c o n ar)=hX (eS c o n):=by
 funext t;refine(?_ :(if aj t then _ else _)=(if aj t then _ else _));by_cases d:aj t
 ·refine Z (if_pos d) (Z (if_pos d) (?_ :U (V.int (if t∈ar/\c t=o then n else c t))=U (V.int (if c t=o then n else c t))))
  by_cases e:c t=o;·exact Z (if_pos ⟨aR d,e⟩) (Z (if_pos e) rfl)
  ·exact Z (if_neg λk=>e k.2) (Z (if_neg e) rfl)
 ·exact Z (if_neg d) (Z (if_neg d) rfl)
theorem xF{c:Int->Int}{o n t:Int}(e:c t=o):aH (l8 c o n l) t n=l8 c o n (l++[t]):=by
 funext x;refine(?_ :(if x=t then n else if x∈l/\c x=o then n else c x)=if x∈l++[t]/\c x=o then n else c x);by_cases d:x=t;·exact Z (if_pos d) (Z (if_pos ⟨K1 _ (KG.mpr d),Z d e⟩) rfl)
 ·refine Z (if_neg d) ?_
  by_cases k:x∈l/\c x=o;·exact Z (if_pos k) (Z (if_pos ⟨KZ _ k.1,k.2⟩) rfl)
  ·exact Z (if_neg k) (Z (if_neg λq=>k ⟨(KW.mp q.1).resolve_right λm=>d (KG.mp m),q.2⟩) rfl)
theorem vd{c:Int->Int}{o n t:Int}(e:c t≠o):l8 c o n l=l8 c o n (l++[t]):=by
 funext x;refine(?_ :(if x∈l/\c x=o then n else c x)=if x∈l++[t]/\c x=o then n else c x);by_cases d:x=t;·subst d;exact Z (if_neg λk=>e k.2) (Z (if_neg λk=>e k.2) rfl)
 ·by_cases k:x∈l/\c x=o
  ·exact Z (if_pos k) (Z (if_pos ⟨KZ _ k.1,k.2⟩) rfl)
  ·exact Z (if_neg k) (Z (if_neg λq=>k ⟨(KW.mp q.1).resolve_right λm=>d (KG.mp m),q.2⟩) rfl)
noncomputable def F5(k:Nat):Bool:=!(Lk k 49)
noncomputable def Ig(k:Nat):Bool:=!(Lk k 50)
theorem um{c:Int->Int}{P:PS}(H:13<J.length)(j:(J[3]?).join=U (.ref (A.R 49 0)))(E:(J[11]?).join=U (.int o))(g:(J[12]?).join=U (.int nw))(R:AR h A)(hd:A.o 49 0=U (.dI ar (hX c)))
  (q:∀h' A' y,AR h' A'->A'.o 49 0=U (.dI ar (hX (eS c o nw)))->A'.R 49 0=A.R 49 0->Fr F5 A A'->P .next (J.set 13 y) h'):
  ∃n,dp (λv J Q h=>Tg.wp G1 C (.var 13) v J Q h) (λJ Q h=>St.bh G1 C [.cF (.bV .eq (.sub (.var 3) (.var 13)) (.var 11)) [.a8 (.sub (.var 3) (.var 13)) (.var 12)] []] J Q h) n (.bp (ae ar)) J P h:=by
 refine i3 (λl A'=>A'.o 49 0=U (.dI ar (hX (l8 c o nw l)))/\A'.R 49 0=A.R 49 0/\Fr F5 A A') H (λl t L A' h' K e b r k=>?_) (λA' h' y b r=>q _ _ y r (xm c o nw▸b.1) b.2.1 b.2.2) R ⟨by refine Z (xL _ _ _) ?_;exact hd,rfl,.refl⟩;have N:aj t:=hV (Z e (K1 _ KJ));have D:=dw;replace D:=e▸D;have T:l8 c o nw l t=c t:=if_neg λk=>(λm=>(L7.mp D).2.2 t m t KJ rfl:t∉l) k.1;have i:((J.set 13 (U (.int t)))[3]?).join=U (.ref (A'.R 49 0)):=Z (d5 (by decide)) (Z j (Z b.2.1 rfl));have f:((J.set 13 (U (.int t)))[13]?).join=U (.int t):=by refine Z (g7 H) ?_;rfl
 refine ab i (ab f (cK r b.1 (rd N) (ab (a:=.int o) (Z (d5 (by decide)) E) (Z T ?_))));by_cases d:c t=o;·refine j9 d (ab (a:=.int nw) (Z (d5 (by decide)) g) (ab i (ab f (cD r b.1 (aR N) λs p=>k _ _ p ⟨hR (xF d) (hR (kK N) ?_),b.2.1,b.2.2.trans (.set rfl)⟩))));rfl
 ·exact ju d (k _ _ r ⟨vd d▸b.1,b.2⟩)
theorem lC{c:Int->Int}{u v:Int}{P:List (Int×Int)}{Po:PS}{r:V}(f:(J[1]?).join=U (.ref (A.R 41 0)))(g:(J[3]?).join=U (.ref (A.R 49 0)))(o:(J[5]?).join=U (.ref (A.R 50 0)))(e:(J[7]?).join=U (.fl (ae oI)))(i:(J[8]?).join=U (.int j))(l:(J[4]?).join=U (.int k))
  (m:jt (ae oI) j=U (.int a))(K:jt (ae oI) k=U (.int b))(n:ai.M.arg a=U u)(B:ai.M.arg b=U v)(R:AR h A)(I:A.o 41 0=U (.dI ar λt=>(ai.M.arg t).map V.int))(hd:A.o 49 0=U (.dI ar (hX c)))(H:A.o 50 0=U (.list (P.map b')))(L:P.length<=2000)
  (q:∀h' A',AR h' A'->A'.o 50 0=U (.list ((oh c P a b u v).map b'))->A'.R 50 0=A.R 50 0->Fr Ig A A'->Po .next J h'):
  St.bh G1 C [.cF (.bV .eq (.sub (.var 3) (.sub (.var 1) (.sub (.var 7) (.var 8)))) (.sub (.var 3) (.sub (.var 1) (.sub (.var 7) (.var 4))))) [.expr (.az (.var 5) "append" [.aA [.sub (.var 7) (.var 8),.sub (.var 7) (.var 4)]])] []] J Po h:=by
 refine ay (aZ n) λ_ N=>ay (aZ B) λ_ p=>ab g (ab f (ab e (ab i (ab m (cK R I (v:=.int u) (by refine Z n ?_;rfl) (cK R hd (rd N) ?_))))));refine ab g (ab f (ab e (ab l (ab K (cK R I (v:=.int v) (by refine Z B ?_;rfl) (cK R hd (rd p) ?_))))));by_cases d:c u=c v
 ·have E:oh c P a b u v=P++[(a,b)]:=if_pos d
  replace q:=E▸q;exact j9 d (ab o (ab (aq R H) ⟨rfl,ab e (ab i (ab m (ab e (ab l (ab K ⟨(by decide:2<=aN),aq R H,bH R H (Z (KE _) (KU L (by decide))) λw s=>q _ _ s (by refine Z La ?_;rfl) rfl (.set rfl)⟩)))))⟩))
 ·have E:oh c P a b u v=P:=if_neg d
  replace q:=E▸q;exact ju d (q _ _ R H rfl .refl)
theorem aY{P:PS}(q:ai.Ex.wp G1 C e J (Ft (Tg.wp G1 C t) J (n0 (St.bh G1 C r) P)) h):St.bh G1 C (.a8 t e::r) J P h:=q
theorem mG{j:Nat}{elt:ai.Ex}{c:Option ai.Ex}(e:(J[j]?).join=U (.fl xs))(n:Nat)
  (q:iter (w4 (λv=>ai.Ex.EF G1 C c (J.set i (U v))) (λv=>ai.Ex.wp G1 C elt (J.set i (U v)))) n (.bp xs) [] (jJ Q) h):ai.Ex.wp G1 C (.comp elt i (.var j) c) J Q h:=ab e ⟨n,q⟩
theorem comp_map{a:Type}{step:V->List V->(List V->Hp->Prop)->Hp->Prop}{e:a->V}{f:a->Option V}{P:List V->Hp->Prop}:∀(l:List a) (acc:List V),acc.length+l.length<=aN->(∀x∈l,∀acc (K:List V->Hp->Prop),acc.length<aN->K (acc++(f x).toList) h->step (e x) acc K h)->P (acc++l.filterMap f) h->iter step (l.length+1) (.bp (l.map e)) acc P h
 |[],acc,_,_,q=>by simp only[Pe,K8] at q;exact q
 |v::l,acc,b,s,q=>by
  simp only[Lr] at b;refine s v KJ acc _ (bM (ip _ _ _) 0x11378131113978 rfl b) (comp_map l _ ?_ (λx m=>s x (KP _ m)) ?_)
  ·have:=toList_len (f v)
   exact Z KH (bM (lP _ _ _ _) 0x19187a13111397a13813 rfl b this)
  have:(v::l).filterMap f=(f v).toList++l.filterMap f:=by simp only[Lg];cases f v<;>rfl
  simp only[K7,<-this];exact q
theorem f1{i:Nat}{v:V}{l:List V}(e:((LP n).map λ(i:Nat)=>V.int i).drop i=v::l):i<n/\v=.int i/\l=((LP n).map λ(i:Nat)=>V.int i).drop (i+1):=by
 have H:((LP n).map λ(i:Nat)=>V.int i).length=n:=by(exact Z (KE _) (Z LN rfl))
 have lt:i<n:=by refine KS (OF i n) (λh=>h) λh=>?_;replace e:=(MD (Z H h))▸e;exact(nomatch e)
 replace e:=(Ms (Z H lt))▸e;injection e with E a;refine⟨lt,?_,a.symm⟩
 (exact hR E (Z (RD _) (Z (Q' _) rfl)))
theorem pt{i:Nat}(e:[]=((LP n).map λ(i:Nat)=>V.int i).drop i):n<=i:=by exact hR (Z (KE _) (Z LN rfl):((LP n).map λ(i:Nat)=>V.int i).length=n) (QV.mp e.symm)
theorem yQ{s t:String}{P:Bool->Prop}(q:P (s==t)):bB (gI h .eq (.str s) (.str t)) P:=q
theorem yT(F:List bm):F.filterMap (λf=>if f.jj=true then U (b' (f.x,f.y)) else KF)=(ml F).map b':=by
 induction F with
 |nil=>rfl
 |cons f F i=>
  unfold ml at i⊢;simp only[Lg,Lg,i];by_cases c:f.jj=true;·refine Z (if_pos c) (Z (if_pos c) ?_);rfl
  ·exact Z (if_neg c) (Z (if_neg c) rfl)
theorem yZ{i:Nat}{F:List bm}{P:List V->Hp->Prop}(H:i<J.length)(b:F.length<=1000)(q:P ((ml F).map b') h):
  iter (w4 (λv=>ai.Ex.EF G1 C (U (.bV .eq (.sub (.var i) (.aE (.int 0))) (.aE (.str "tie")))) (J.set i (U v))) (λv=>ai.Ex.wp G1 C (.aA [.sub (.var i) (.aE (.int 1)),.sub (.var i) (.aE (.int 2))]) (J.set i (U v)))) (F.length+1) (.bp (F.map dM)) [] P h:=by
 refine comp_map (f:=λf=>if f.jj=true then U (b' (f.x,f.y)) else KF) F [] (Z Nx (Z (No _) (KB b (by decide)))) (λf d acc K A k=>?_) (by exact Z (yT _) q);have g:∀v,((J.set i (U v))[i]?).join=U v:=λv=>by refine Z (g7 H) ?_;rfl
 refine ab (g _) (aS (ab (a:=V.str (if f.jj=true then "tie" else "part")) rfl (aS (yQ ?_))));induction c:f.jj with
 |true=>replace k:=c▸k;exact bW rfl (ab (g _) (aS (ab (a:=V.int f.x) rfl (ab (g _) (aS (ab (a:=V.int f.y) rfl ⟨(by decide:2<=aN),A,k⟩))))))
 |false=>replace k:=c▸k;refine bI rfl ?_;simpa using k
theorem tx(k:Nat)(h:pC k=true):F5 k=true/\Ig k=true:=by unfold pC at h;delta F5 Ig;cases a:Lk k 49<;>cases b:Lk k 50<;>rw[a,b] at h<;>first |exact⟨rfl,rfl⟩ |exact aK h
noncomputable def xG(A:AH)(F:List bm)(b c x6 x7 x8 x9 x10 x X a:Option V):aV:=[U (.fl (ae ar)),U (.ref (A.R 41 0)),U (.fl (F.map dM)),U (.ref (A.R 49 0)),b,c,x6,x7,x8,x9,x10,x,X,a,KF,KF]
theorem Ae(h:A'.R 41 0=A.R 41 0)(H:A'.R 49 0=A.R 49 0):xG A'=xG A:=by unfold xG;exact Z h (Z H rfl)
noncomputable def H7:List St:=match c1.body.drop 4 with
 |.while _ b::_=>b
 |_=>[]
inductive Ke(A:AH)(F:List bm)(l:List V)(J:aV)(h:Hp):Prop
 |mk (A':AH) (i:Nat) (y:Option V) (I:i<=9) (e:l=((LP 9).map λ(i:Nat)=>V.int i).drop i) (E:J=xG A' F y KF KF KF KF KF KF KF KF KF) (R:AR h A') (d:A'.o 49 0=U (.dI ar (w1 i))) (f:Fr pC A A')
theorem CL{F:List bm}{P:PS}(R:AR h A)(q:∀h' A' y,AR h' A'->A'.o 49 0=U (.dI ar (hX λt=>t-3))->Fr pC A A'->St.bh G1 (lw n) (c1.body.drop 2) (xG A' F y KF KF KF KF KF KF KF KF KF) P h'):
  St.bh G1 (lw n) c1.body [U (.fl (ae ar)),U (.ref (A.R 41 0)),U (.fl (F.map dM)),KF,KF,KF,KF,KF,KF,KF,KF,KF,KF,KF,KF,KF] P h:=by
 refine aY (d0 (nq 49 0 ar R (aX rfl) λM s o=>⟨aX rfl,(by decide:9<=aN),by decide,by decide,ab (a:=It.bp ((LP 9).map λ(i:Nat)=>V.int i)) rfl (iV (Ke A F) (λv l J H K I k=>?_) (λJ H I=>?_) _ ⟨A.new 49 0 M _,0,KF,by decide,rfl,rfl,o,?_,.new rfl⟩)⟩))
 ·obtain⟨j,i,y,m,e,c,r,d,g⟩:=I
  subst c;refine cH (f1 e.symm) λlt E b=>?_;subst E;clear e;subst b;exact⟨aX rfl,aY (aB rfl (ab (je lt) (cD r d (aR (by unfold aj;lia)) λu p=>k _ _ ⟨j.set 49 0 _,i+1,_,lt,rfl,rfl,p,by refine hR (yk lt) ?_;rfl,g.trans (.set rfl)⟩)))⟩
 ·obtain⟨j,i,y,m,e,c,r,d,g⟩:=I
  subst c;cases L2 m (pt e);replace d:=xt▸d;exact q _ _ _ r d g
 ·refine((congrArg (λf=>U (AO.dI ar f)) (funext λt=>?_)):U (AO.dI ar _)=_)
  exact(if_neg (by omega)).symm
theorem CH{F:List bm}{c:Int->Int}{P:PS}(R:AR h A)(hd:A.o 49 0=U (.dI ar (hX c)))(H:F.length<=1000)
  (q:∀h' A',AR h' A'->A'.o 49 0=U (.dI ar (hX c))->A'.o 50 0=U (.list ((ml F).map b'))->Fr pC A A'->St.bh G1 (lw n) (c1.body.drop 4) (xG A' F y (U (.ref (A'.R 50 0))) (U (.bool true)) KF KF KF KF KF KF KF) P h'):
  St.bh G1 (lw n) (c1.body.drop 2) (xG A F y KF KF KF KF KF KF KF KF KF) P h:=by
 have l:((ml F).map b').length<=aN:=Z (KE _) (KB (KB (MU _ _) H) (by decide));exact aY (mG rfl (F.length+1) (yZ (i:=14) (aX rfl) H (c6 50 0 R l λm a r=>⟨aX rfl,aX rfl,q _ (A.new 50 0 m _) r hd rfl (.new rfl)⟩)))
theorem yX{F:List bm}{c:Int->Int}{P:List (Int×Int)}{C X:Option V}(R:AR h A)(H:A.o 41 0=U (.dI ar λt=>(ai.M.arg t).map V.int))(hd:A.o 49 0=U (.dI ar (hX c)))(D:A.o 50 0=U (.list (P.map b')))(L:P.length<=1000)
  (q:∀h' A',AR h' A'->A'.o 50 0=U (.list ((f7 c P).map b'))->Fr Ig A A'->A'.R 50 0=A.R 50 0->St.bh G1 (lw n) (H7.drop 3) (xG A' F (U (.int 1)) (U (.ref (A'.R 50 0))) (U (.bool false)) (U (.fl (ae oI))) (U (.int 2)) x9 x10 x X g) Po h'):
  St.bh G1 (lw n) H7 (xG A F C (U (.ref (A.R 50 0))) x6 x7 x8 x9 x10 x X g) Po h:=by
 refine⟨aX rfl,aY (mG rfl ((ae ar).length+1) (qd (p:=λt=>(ai.M.arg t).isSome) (l:=ar) (by decide) (λi I acc K E k=>q8 R H ?_) (bz (by decide) ⟨aX rfl,?_⟩)))⟩
 ·have e:((ai.M.arg i).map V.int).isSome=(ai.M.arg i).isSome:=by cases ai.M.arg i<;>rfl
  refine Z e ?_;induction c:(ai.M.arg i).isSome with
  |true=>replace k:=c▸k;exact bW rfl ⟨E,k⟩
  |false=>replace k:=c▸k;exact bI rfl (hR (K8 acc) k)
 refine Z ((rfl:ar.filter (λt=>(ai.M.arg t).isSome)=oI)) ?_;have Q:(oh c P 10 9 4 3).length<=1001:=KB (tR c P 10 9 4 3) (Ld L);refine⟨(by decide:3<=aN),by decide,by decide,ab (a:=It.bp [.int 0,.int 1,.int 2]) rfl ⟨4,aX rfl,by decide,by decide,ab (a:=It.bp []) rfl ⟨1,aX rfl,by decide,by decide,ab (a:=It.bp [.int 0]) rfl ⟨2,aX rfl,lC (a:=10) (b:=9) (u:=4) (v:=3) (j:=1) (k:=0) (r:=.none) rfl rfl rfl rfl rfl rfl rfl rfl rfl rfl R H hd D (KB L (by decide)) λh5 w G J s o=>⟨aX rfl,by decide,by decide,ab (a:=It.bp [.int 0,.int 1]) rfl ⟨3,aX rfl,lC (a:=11) (b:=9) (u:=5) (v:=3) (j:=2) (k:=0) (r:=.none) (Z (ky o rfl) rfl:U (V.ref (A.R 41 0))=U (V.ref (w.R 41 0))) (Z (ky o rfl) rfl:U (V.ref (A.R 49 0))=U (V.ref (w.R 49 0))) (Z s rfl:U (V.ref (A.R 50 0))=U (V.ref (w.R 50 0))) rfl rfl rfl rfl rfl rfl rfl G ((o 41 0 rfl).1.trans H) ((o 49 0 rfl).1.trans hd) J ((λh=>KB h (by decide):∀{m:Nat},m<=1000+1->m<=2000) Q) λh6 y M N z S=>?_⟩⟩⟩⟩⟩⟩;have f:=o.trans S;refine⟨aX rfl,lC (a:=11) (b:=10) (u:=5) (v:=4) (j:=2) (k:=1) (r:=.none) (Z (ky f rfl) rfl:U (V.ref (A.R 41 0))=U (V.ref (y.R 41 0))) (Z (ky f rfl) rfl:U (V.ref (A.R 49 0))=U (V.ref (y.R 49 0))) (Z z (Z s rfl):U (V.ref (A.R 50 0))=U (V.ref (y.R 50 0))) rfl rfl rfl rfl rfl rfl rfl M ((f 41 0 rfl).1.trans H) ((f 49 0 rfl).1.trans hd) N (KB (KB (tR c _ 11 9 5 3) (Ld Q)) (by decide)) λT W R7 p7 B F7=>?_⟩;have d:=f.trans F7;have:=q T W R7 p7 d (B.trans (z.trans s));replace this:=(B.trans (z.trans s))▸(Ae (ky d rfl) (ky d rfl))▸this;exact this
inductive CS(A:AH)(F:List bm)(c:Int->Int)(W:List (Int×Int))(b x7 x8:Option V)(l:List V)(J:aV)(h:Hp):Prop
 |mk (A':AH) (p P:List (Int×Int)) (s:(Int->Int)×Bool) (x9 x10 x X a:Option V) (e:l=Nw b' P) (E:W=p++P) (S:h0 (fW F) c p s) (g:J=xG A' F b (U (.ref (A'.R 50 0))) (U (.bool s.2)) x7 x8 x9 x10 x X a) (R:AR h A') (d:A'.o 49 0=U (.dI ar (hX s.1))) (r:A'.R 49 0=A.R 49 0) (f:Fr F5 A A')
theorem zB{F:List bm}{c:Int->Int}{W:List (Int×Int)}{K X:Option V}(R:AR h A)(hd:A.o 49 0=U (.dI ar (hX c)))(M:A.o 50 0=U (.list (W.map b')))(pr:∀p∈W,aj p.1/\aj p.2/\Cl (fW F) p.1 p.2)(st:h0 (fW F) c [] (c,false))
  (q:∀h' A' s x9 x10 x X d,AR h' A'->A'.o 49 0=U (.dI ar (hX s.1))->h0 (fW F) c W s->Fr F5 A A'->A'.R 49 0=A.R 49 0->St.bh G1 (lw n) (H7.drop 4) (xG A' F K (U (.ref (A'.R 50 0))) (U (.bool s.2)) x7 x8 x9 x10 x X d) Po h'):
  St.bh G1 (lw n) (H7.drop 3) (xG A F K (U (.ref (A.R 50 0))) (U (.bool false)) x7 x8 x9 x10 x X d) Po h:=by
 refine ab (a:=It.cZ (A.R 50 0) 0) (cU R M) (i0 (r:=A.R 50 0) (xs:=W.map b') (CS A F c W K x7 x8) (λl J h' I=>?_) (λv l J h' K2 hv I N=>?_) (λJ h' I=>?_) ⟨A,[],W,(c,false),_,_,_,_,_,rfl,rfl,st,rfl,R,hd,rfl,.refl⟩)
 ·obtain⟨A',g,P,s,Q,m,t,u,w,z,E,B,H,b,D,C,f⟩:=I
  have:=b.io ((f 50 0 rfl).1.trans M);rwa[ky f rfl] at this
 ·obtain⟨A',g,P,s,Q,m,t,u,w,z,E,B,H,b,D,C,f⟩:=I
  cases P with
  |nil=>cases z
  |cons p P=>
  obtain⟨rfl,rfl⟩:=Ly z;subst H;refine cH (pr p (by rw[E];exact K1 _ KJ)) λT Z cl=>?_;have S:=B.step T Z cl;have G:W=(g++[p])++P:=by rw[K7];exact E
  refine⟨rfl,aX rfl,aX rfl,aY (cK b D (rd T) (cK b D (rd Z) ⟨(by decide:2<=aN),rfl,aX rfl,aX rfl,?_⟩))⟩;by_cases e:s.1 p.1=s.1 p.2
  ·simp only[show qn s p=s from if_pos e] at S
   exact oY e (N _ _ ⟨A',g++[p],P,s,_,_,_,_,_,rfl,G,S,rfl,b,D,C,f⟩)
  ·simp only[show qn s p=(eS s.1 (s.1 p.1) (s.1 p.2),true) from if_neg e] at S
   refine mx e ⟨aX rfl,cB (vj (i:=13) (j:=0) rfl (um (c:=s.1) (o:=s.1 p.1) (nw:=s.1 p.2) (aX rfl) rfl rfl rfl b D λh8 A8 y R8 d8 r8 L=>N _ _ ⟨A8,g++[p],P,_,U (.int p.1),U (.int p.2),U (.int (s.1 p.1)),U (.int (s.1 p.2)),y,rfl,G,S,?_,R8,d8,r8.trans C,f.trans L⟩))⟩;rw[Ae (ky L rfl) r8,ky L (k:=50) rfl];rfl
 ·obtain⟨A',g,P,s,Q,m,t,u,w,z,E,B,H,b,D,C,f⟩:=I
  cases P with
  |cons=>cases z
  |nil=>
  subst H;rw[K8] at E;rw[<-E] at B;exact q _ _ _ _ _ _ _ _ b D B f C
inductive CW(A:AH)(F:List bm)(m:Nat)(J:aV)(h:Hp):Prop
 |mk (A':AH) (c:Int->Int) (b:Bool) (P:List (Int×Int)) (e x7 x8 x9 x10 x X a:Option V) (E:J=xG A' F e (U (.ref (A'.R 50 0))) (U (.bool b)) x7 x8 x9 x10 x X a) (R:AR h A') (f:Fr pC A A') (d:A'.o 49 0=U (.dI ar (hX c))) (p:A'.o 50 0=U (.list (P.map b'))) (l:P.length<=1000) (k:iP F c b P) (M:m=if b=true then tO c+1 else 0)
theorem zX(R:AR h A)(l:A.o 41 0=U (.dI ar λt=>(ai.M.arg t).map V.int)){F:List bm}(N:∀f∈F,aj f.x/\aj f.y)(H:F.length<=1000)(q:∀h' A' c,AR h' A'->A'.o 49 0=U (.dI ar (hX c))->EE F c->Fr pC A A'->Q (.ref (A'.R 49 0)) h'):
  lw (n+1) "_law_closed" [.fl (ae ar),.ref (A.R 41 0),.fl (F.map dM)] Q h:=by
 refine ab qW ⟨rfl,CL R λh2 A2 y o p u=>CH o p H λh3 v w x z B=>h9 (CW A F) (λm J h4 K I C=>?_) ⟨v,_,true,ml F,_,_,_,_,_,_,_,_,rfl,w,u.trans B,x,z,KB (MU _ _) H,.start,rfl⟩⟩;obtain⟨E,c,b,P,x4,x7,x8,x9,x10,X,G,L,T,r,g,D,p4,W,d,em⟩:=I;subst T;refine ab (a:=V.bool b) rfl (ab (a:=b) rfl ?_);induction b with
 |false=>exact bI rfl ⟨_,_,.refl,q _ _ _ r D d.cY g⟩
 |true=>
  refine bW rfl (yX r ((g 41 0 rfl).1.trans l) D p4 W λh5 A5 R5 p5 i r5=>zB R5 ((i 49 0 rfl).1.trans D) p5 (d.HR N) (.start d) λh6 j s y9 aa ac af ag R6 d6 S F6 r6=>aY (c6 50 0 (xs:=[]) R6 (K3 _) λM an R9=>⟨aX rfl,C (if s.2=true then tO s.1+1 else 0) (Z em (Z (if_pos rfl) ?_)) _ _ ⟨j.new 50 0 M _,s.1,s.2,[],_,_,_,_,_,_,_,_,rfl,R9,g.trans ((i.bU λk e=>(tx k e).2).trans ((F6.bU λk e=>(tx k e).1).trans (.new rfl)):Fr pC E (j.new 50 0 M (.list []))),d6,rfl,K3 _,d.next S,rfl⟩⟩));by_cases e:s.2=true;·exact Z (if_pos e) (PL (S.lt e))
  ·exact Z (if_neg e) (MR _)
theorem D2{j:Nat}{P:PS}(e:(J[j]?).join=U (.fl xs))(q:∃n,dp (Tg.wp G1 C t) (St.bh G1 C b) n (.bp xs) J (Fl.seq (n0 (St.bh G1 C r) P) P) h):St.bh G1 C (.for t (.var j) b::r) J P h:=ab e q
theorem eT(q:ai.Ex.wp G1 C e J (oo (ai.Ex.wp G1 C i J) (GF Q)) h):ai.Ex.wp G1 C (.sub e i) J Q h:=q
noncomputable def kc(F:List bm):List (Int×Int):=F.filterMap λf=>if f.jj=true then KF else U (f.x,f.y)
theorem jm{F:List bm}{p:Int×Int}:p∈kc F↔∃m,sA F m p.1 p.2:=by
 unfold kc;refine iR Ny ?_;constructor
 ·rintro q;refine aD q λb a H=>?_;obtain⟨t,x,y,m⟩:=b
  induction t with
  |true=>exact al H
  |false=>(replace H:=KC H;clear q;subst H);exact⟨m,a⟩
 ·rintro Q;refine cV Q λm h=>?_
  exact⟨_,h,rfl⟩
theorem xz(F:List bm):F.filterMap (λf=>if f.jj=true then KF else U (b' (f.x,f.y)))=(kc F).map b':=by
 induction F with
 |nil=>rfl
 |cons f F i=>
  unfold kc at i⊢;simp only[Lg,Lg,i];by_cases c:f.jj=true;·exact Z (if_pos c) (Z (if_pos c) rfl)
  ·refine Z (if_neg c) (Z (if_neg c) ?_);rfl
theorem x0{i:Nat}{F:List bm}{P:List V->Hp->Prop}(H:i<J.length)(b:F.length<=1000)(q:P ((kc F).map b') h):
  iter (w4 (λv=>ai.Ex.EF G1 C (U (.bV .eq (.sub (.var i) (.aE (.int 0))) (.aE (.str "part")))) (J.set i (U v))) (λv=>ai.Ex.wp G1 C (.aA [.sub (.var i) (.aE (.int 1)),.sub (.var i) (.aE (.int 2))]) (J.set i (U v)))) (F.length+1) (.bp (F.map dM)) [] P h:=by
 refine comp_map (f:=λf=>if f.jj=true then KF else U (b' (f.x,f.y))) F [] (Z Nx (Z (No _) (KB b (by decide)))) (λf d acc K A k=>?_) (by exact Z (xz _) q);have g:∀v,((J.set i (U v))[i]?).join=U v:=λv=>by refine Z (g7 H) ?_;rfl
 refine ab (g _) (aS (ab (a:=V.str (if f.jj=true then "tie" else "part")) rfl (aS (yQ ?_))));induction c:f.jj with
 |false=>replace k:=c▸k;exact bW rfl (ab (g _) (aS (ab (a:=V.int f.x) rfl (ab (g _) (aS (ab (a:=V.int f.y) rfl ⟨(by decide:2<=aN),A,k⟩))))))
 |true=>replace k:=c▸k;refine bI rfl ?_;simpa using k
noncomputable def jN(F:List bm):List (Int×Int):=(7,8)::kc F
theorem wk{i j:Nat}{F:List bm}{P:PS}(L:ed A cs S)(R:AR h A)(f:F.length<=1000)(H:i<J.length)(b:j<J.length)(c:0≠i)(I:1≠i)(e:(J[0]?).join=U (.ref (A.R 42 0)))(E:(J[1]?).join=U (.fl (F.map dM)))
  (q:St.bh G1 C r (J.set i (U (.fl ((jN F).map b')))) P h):
  St.bh G1 C (.a8 (.var i) (.list [.aA [.sub (.sub (.var 0) (.aE (.str "some"))) (.aE (.int 4)),.sub (.sub (.var 0) (.aE (.str "some"))) (.aE (.int 5))]])::
   .a8 (.var i) (.hQ .add (.var i) (.comp (.aA [.sub (.var j) (.aE (.int 1)),.sub (.var j) (.aE (.int 2))]) j (.var 1) (U (.bV .eq (.sub (.var j) (.aE (.int 0))) (.aE (.str "part"))))))::r) J P h:=by
 refine ab e (aS (dm R L.bJ (i:="some") rfl (aS (ab (a:=V.int 7) rfl (ab e (aS (dm R L.bJ (i:="some") rfl (aS ?_))))))));refine ab (a:=V.int 8) rfl ⟨(by decide:2<=aN),bz (by refine(?_ :1<=aN);decide) ⟨H,?_⟩⟩;refine aY (eg (ab (a:=V.fl [b' (7,8)]) (by refine Z (g7 H) ?_;rfl) ?_));refine mG (xs:=F.map dM) (Z (d5 I) E) (F.length+1) (x0 (i:=j) (Z Mh b) f ?_);have l:((kc F).map b').length<=1000:=by refine Z (KE _) ?_;exact KB (MU _ _) f
 refine bz (KB l (by decide)) (Bo (by refine(?_ :1<=aN);decide) (KB l (by decide)) ?_ ⟨by refine Z Mh ?_;exact H,?_⟩);·refine Z KH ?_;exact KB (LO l 1) (by decide)
 ·exact Z (SO _) q
noncomputable def IS(A:AH)(F:List bm)(x y z:Option V):aV:=[U (.ref (A.R 42 0)),U (.fl (F.map dM)),U (.ref (A.R 49 0)),U (.fl ((jN F).map b')),x,y,z]
noncomputable def II(A:AH)(F:List bm)(a b:Int)(s:List Int)(x y z:Option V):aV:=[U (.ref (A.R 42 0)),U (.fl (F.map dM)),U (.ref (A.R 49 0)),U (.int a),U (.int b),U (.fl (ae s)),U (.fl ((jN F).map b')),x,y,z]
theorem qA{F:List bm}(n:∀f∈F,aj f.x/\aj f.y)(p:Int×Int)(m:p∈jN F):aj p.1/\aj p.2:=
 (KM.mp m).elim (λe=>Z e ⟨(by decide:aj 7),(by decide:aj 8)⟩) λm=>(jm.mp m).elim λ_ m=>n _ m
theorem Cc(R:AR h A)(L:ed A cs S){F:List bm}{c:Int->Int}(a:F.length<=1000)(N:∀f∈F,aj f.x/\aj f.y)(hd:A.o 49 0=U (.dI ar (hX c)))(q:(∃p∈jN F,c p.1=c p.2)->Q (.bool true) h)(b:(∀p∈jN F,c p.1≠c p.2)->Q (.bool false) h):
  lw (n+1) "_law_clashes" [.ref (A.R 42 0),.fl (F.map dM),.ref (A.R 49 0)] Q h:=by
 have r:=qA N;refine ab oS ⟨rfl,wk L R a (aX rfl) (aX rfl) (by decide) (by decide) rfl rfl (D2 (xs:=(jN F).map b') rfl (se (enc:=b') (L:=jN F) (λP _=>∀p∈P,c p.1≠c p.2) (IS A F) (λP p B x y z K e H k=>?_) (λx y z H=>⟨_,_,.refl,b H⟩) λ_ m=>(nomatch m)))⟩;have mp:p∈jN F:=Z e (K1 _ KJ);refine⟨rfl,aX rfl,aX rfl,cK R hd (rd (r p mp).1) (cK R hd (rd (r p mp).2) ?_)⟩;by_cases d:c p.1=c p.2;·exact j9 d ⟨_,_,.refl,q ⟨p,mp,d⟩⟩
 ·exact ju d (k _ _ _ λx m=>(KW.mp m).elim (H x) λm=>KG.mp m▸d)
theorem oi:∀a b:List Int,V.ka (ae a) (ae b)=decide (a=b)
 |[],[]=>rfl
 |[],_::_=>rfl
 |_::_,[]=>rfl
 |x::a,y::b=>by refine(?_ :((x==y)&&V.ka (ae a) (ae b))=_);rw[oi a b,PQ,Lu,beq_iff_eq,decide_eq_true_iff,decide_eq_true_iff,Pn]
theorem nA(a:List Int)(k:Nat):(V.fl (ae a)).hj (k+2)=true:=by refine(?_ :(ae a).all (V.hj (k+1))=true);simp only[LS];intro x h;refine aD (Lo.mp h) λi _ e=>?_;clear h;subst e;rfl
theorem wQ(a b:List Int):gI h .eq (.fl (ae a)) (.fl (ae b))=U (decide (a=b)):=by refine(?_ :(if((V.fl (ae a)).hj 8&&(V.fl (ae b)).hj 8)=true then U (V.ka (ae a) (ae b)) else KF)=_);simp only[nA a 6,nA b 6,oi];rfl
theorem Cx(a b:List Int):gI h .ne (.fl (ae a)) (.fl (ae b))=U (!decide (a=b)):=by refine((Z (show eqv h (.fl (ae a)) (.fl (ae b))=U (decide (a=b)) from wQ a b) ?_):(eqv h (.fl (ae a)) (.fl (ae b))).map (!·)=_);rfl
theorem By(a b:Int):cG [a,b]=if a<=b then[a,b] else[b,a]:=by
 refine(?_ :(if decide (a<=b)=true then[a,b] else[b,a])=_);by_cases c:a<=b;·exact Z (if_pos c) (Z (if_pos (decide_eq_true c)) rfl)
 ·exact Z (if_neg c) (Z (if_neg (by exact Z (decide_eq_false c) LW)) rfl)
theorem ur(a b:Int):cG [a,b]=cG [b,a]:=by
 simp only[By,By];by_cases c:a<=b<;>by_cases d:b<=a;·exact Z (if_pos c) (Z (if_pos d) (Z (Int.le_antisymm c d) rfl))
 ·exact Z (if_pos c) (Z (if_neg d) rfl)
 ·exact Z (if_neg c) (Z (if_pos d) rfl)
 ·lia
theorem BB{a b:Int}(n:a≠b):∃x y,cG [a,b]=[x,y]/\x≠y:=by
 refine Z (By _ _) ?_;split;·exact⟨_,_,rfl,n⟩
 ·exact⟨_,_,rfl,n.symm⟩
theorem Bt(R:AR h A)(L:ed A cs S){F:List bm}{c:Int->Int}(g:F.length<=1000)(N:∀f∈F,aj f.x/\aj f.y)(hd:A.o 49 0=U (.dI ar (hX c)))(nx:aj x)(i:aj y)(E:c x≠c y)(G:∃p∈jN F,cG [c p.1,c p.2]=cG [c x,c y])(q:Q (.bool true) h):
  lw (n+1) "_law_is_apart" [.ref (A.R 42 0),.fl (F.map dM),.ref (A.R 49 0),.int x,.int y] Q h:=by
 have r:=qA N;refine ab nF ⟨rfl,cK R hd (rd nx) (cK R hd (rd i) (bz (by refine(?_ :2<=aN);decide) ?_))⟩;refine ax (hD (l:=[c x,c y]) (by refine(?_ :2<64);decide) ⟨aX rfl,?_⟩);refine wk L R g (aX rfl) (aX rfl) (by decide) (by decide) rfl rfl (D2 (xs:=(jN F).map b') rfl (se (enc:=b') (L:=jN F) (λ_ P=>∃p∈P,cG [c p.1,c p.2]=cG [c x,c y]) (II A F x y (cG [c x,c y])) (λm p P _ _ _ K e H k=>?_) (λ_ _ _ H=>H.elim λp w=>nomatch w.1) G));have mp:p∈jN F:=Z e (K1 _ KJ);refine⟨rfl,aX rfl,aX rfl,cK R hd (rd (r p mp).1) (cK R hd (rd (r p mp).2) (bz (by decide:2<=aN) (ax (hD (l:=[c p.1,c p.2]) (by decide:2<64) (aB rfl (ab (wQ _ _) ?_))))))⟩;by_cases d:cG [c p.1,c p.2]=cG [c x,c y];·exact bW (decide_eq_true d) (eH (BB E) λa b e B=>Z e (mx (a:=a) (b:=b) B ⟨_,_,.refl,q⟩))
 ·exact bI (decide_eq_false d) (k _ _ _ (H.elim λj w=>⟨j,(KM.mp w.1).resolve_left λe=>d (hR e w.2),w.2⟩))
theorem wE:∀{l:List Int},l.Pairwise (·<·)->cG l=l
 |[],_=>rfl
 |a::r,p=>by
  have p:=L9.mp p;refine((Z (wE p.2) ?_):j0 _ a (cG r)=_);induction r using Lx with
  |nil=>rfl
  |cons b r=>exact if_pos (decide_eq_true (QN (p.1 b KJ)))
theorem zS(F:List bm)(l:List Int):F.filterMap (λf=>if f.m∈l then U (dM f) else KF)=(keep F l).map dM:=by
 induction F with
 |nil=>rfl
 |cons f F i=>
  unfold keep at i⊢;simp only[Lg,MI,i];by_cases c:f.m∈l;·refine Z (if_pos c) (Z (if_pos (decide_eq_true c)) ?_);rfl
  ·exact Z (if_neg c) (Z (if_neg (by exact Z (decide_eq_false c) LW)) rfl)
theorem w_call(q:ai.Ex.bh G1 C es J (z8 C f Q) h):ai.Ex.wp G1 C (.call f es) J Q h:=q
theorem BP{l:List Int}{i:Nat}(p:l.Pairwise (·<·))(h:i<l.length):l[i]∉l.take i:=by have n:=kA p;intro m;rw[(by simp only[<-Ms h,QI]:l=l.take i++l[i]::l.drop (i+1))] at n;exact(L7.mp n).2.2 _ m _ KJ rfl
theorem jd(k:Nat):It.start h (.yB (k:Int))=U (.bp ((LP k).map λ(i:Nat)=>V.int i)):=rfl
theorem yc(k:Nat)(h:p4 k=true):pC k=true:=by
 unfold p4 at h;have H:=((Lu ..).mp h).2;have c:∀j,LA j 49=false->Lk k j=false:=λj a=>by
  induction q:Lk k j with
  |false=>rfl
  |true=>replace H:=a▸(L0 q)▸H;exact aK H
 unfold pC;refine Z (c 49 rfl) (Z (c 50 rfl) ?_);rfl
theorem wT(R:AR h A)(L:ed A cs S){F:List bm}(W:S.a0.flatten=F)(w:F.length<=1000)(fn:∀f∈F,aj f.x/\aj f.y){am:List Int}(nx:aj x)(N:aj y)(G:fR F am l x y t)
  (q:∀h' A',AR h' A'->Fr pC A A'->Q (.bool true) h'):lw (n+2) "_law_is_good" [.ref (A.R 42 0),.fl (ae l),.fl (ae am),.int x,.int y,.int t] Q h:=by
 have X:(ae l).length<=19:=Z (bb _) G.n;refine ab pr ⟨rfl,(hD (l:=l) (KU G.n (by decide)) (ab (Cx l (cG l)) (Z (wE G.s) (Z (decide_eq_true rfl) (bI rfl ⟨KB X (by decide),(Lw _:(0:Int)<=((ae l).length:Int)),Mw (MF.mpr X) (by decide),ab (jd (ae l).length) (Z (bb _) ?_)⟩)))))⟩;refine iV (λr J h'=>h'=h/\∃i z,r=((LP l.length).map λ(i:Nat)=>V.int i).drop i/\J=[U (.ref (A.R 42 0)),U (.fl (ae l)),U (.fl (ae am)),U (.int x),U (.int y),U (.int t),z,KF,KF,KF]) ?_ ?_ _ ⟨rfl,0,_,rfl,rfl⟩
 ·rintro v r J h' K ⟨rfl,i,z,e,rfl⟩ k
  refine cH (f1 e.symm) λlt E d=>?_;subst E;clear e;subst d;have ei:jt (ae l) (i:Int)=U (.int l[i]):=by refine Z (ia _ _) ?_;unfold ae;refine Z (Mz) (Z (LV lt) ?_);rfl
  refine⟨aX rfl,ab ei (aB rfl (ab (show gI h' .eW (.int l[i]) (.fl (ae am))=U (!decide (l[i]∈am)) from by show(kt _ _).map _=_;refine Z (hC _ _) ?_;rfl) ?_))⟩;refine Z (decide_eq_true (G.k _ (Nl lt))) (bI rfl (ab ei ⟨Lw i,fY (KB (Lq lt) (KB G.n (by decide))),Z (Mn _) (Z (mQ _ _) (bz (Z (bb _) (Z Mv (KB (RW _ _) (KB G.n (by decide))))) ?_))⟩));exact ab (hC _ _:gI h' .dK (.int l[i]) (.fl (ae (l.take i)))=U (decide (l[i]∈l.take i))) (Z (decide_eq_false (BP G.s lt)) (bI rfl (k _ _ ⟨rfl,i+1,_,rfl,rfl⟩)))
 ·rintro J h' ⟨rfl,i,z,e,rfl⟩
  refine aY (sr R L (Z W w) (Z W (ab (a:=It.bp (F.map dM)) rfl ⟨F.length+1,comp_map (f:=λf=>if f.m∈l then U (dM f) else KF) F [] (Z Nx (Z (No _) (KB w (by decide)))) (λf hf acc K ha k=>?_) ?_⟩)))
  ·refine ab (hC _ _:gI h' .dK (.int f.m) (.fl (ae l))=U (decide (f.m∈l))) ?_
   by_cases c:f.m∈l
   ·replace k:=(if_pos c)▸k
    exact bW (decide_eq_true c) ⟨ha,k⟩
   ·replace k:=(if_neg c)▸k
    exact bI (decide_eq_false c) (by simpa using k)
  ·rw[OG,zS]
   have lk:(keep F l).length<=1000:=KB (M6 _ _) w;have D:∀f∈keep F l,aj f.x/\aj f.y:=λf m=>fn f (eE.mp m).1;refine bz (by rw[KE];exact KB lk (by decide)) ⟨aX rfl,aY (w_call (dm R L.bJ (i:="some") rfl (dm R L.bJ (i:="inner") rfl (aB rfl (ax (zX R L.gK D lk λh1 A1 c o d1 C I=>⟨aX rfl,?_⟩))))))⟩;have s:Fr p4 A A1:=I.bU yc;refine hR ((cJ s rfl:A1.R 42 0=A.R 42 0)) ?_;by_cases T:t=1
   ·refine j9 (a:=t) (b:=1) T ?_
    have e:c x=c y:=(C x y nx N).mpr (G.e T);exact cK o d1 (rd nx) (cK o d1 (rd N) (ab (((Z (show gI h1 .eq (.int (c x)) (.int (c y))=U (decide (c x=c y)) from oc _ _) (Z (decide_eq_true e) rfl)):gI h1 .eq (.int (c x)) (.int (c y))=U true)) ⟨_,_,.refl,q _ _ o I⟩))
   ·refine ay (G.a T) λB M=>aD B λp u H=>ju (a:=t) (b:=1) T ?_
    have mp:p∈jN (keep F l):=by
     clear H;rcases u with rfl |⟨m,h⟩
     ·exact KJ
     ·exact KP _ (jm.mpr ⟨m,h⟩)
    have P:aj p.1/\aj p.2:=by
     clear mp H;rcases u with rfl |⟨m,h⟩
     ·exact⟨by decide,by decide⟩
     ·exact D _ h
    exact Bt o (L.fr s) lk D d1 nx N (λe=>M ((C x y nx N).mp e)) ⟨p,mp,KS H (λg=>ay g λa b=>Z ((C x _ nx P.1).mpr a) (Z ((C y _ N P.2).mpr b) rfl)) λj=>ay j λa b=>Z ((C x _ nx P.2).mpr a) (Z ((C y _ N P.1).mpr b) (ur _ _))⟩ ⟨_,_,.refl,q _ _ o I⟩
structure fv(A A':AH):Prop where
 a:A'.R 40 0=A.R 40 0
 b:A'.R 41 0=A.R 41 0
 c:A'.R 42 0=A.R 42 0
theorem fv.refl:fv A A:=⟨rfl,rfl,rfl⟩
theorem fv.trans{B C:AH}(x:fv A B)(y:fv B C):fv A C:=⟨y.a.trans x.a,y.b.trans x.b,y.c.trans x.c⟩
theorem fv.of{B:AH}(f:Fr p4 A B):fv A B:=⟨cJ f rfl,cJ f rfl,cJ f rfl⟩
noncomputable def gS(S:Ls)(l:List (Int×Int))(am:List Int)(h:Nat):Ls:={S with tl:=l.foldl (λtl e=>aH tl e.1 (U (e.2,am,h))) S.tl}
structure kR(S S':Ls)(c:Int->Int)(am:List Int)(h:Nat):Prop where
 eq:∀key p,S'.eq key=U p->S.eq key=U p\/∃j k:Nat,k<j/\j<9/\key=[(j:Int),(k:Int)]/\c (3+j)=c (3+k)/\p=(am,h)
 b5:S'={S with eq:=S'.eq}
theorem x1:∀j:Nat,j<9->∀k:Nat,k<j->[(j:Int),(k:Int)]∈gw:=by decide
theorem Fr.Ky{t:Int}{x:AO}:Fr pH A (A.set 47 t x):=.set rfl
theorem vi(S:Ls)(l:List (Int×Int))(e:Int×Int)(am:List Int)(h:Nat):gS S (l++[e]) am h={gS S l am h with tl:=aH (gS S l am h).tl e.1 (U (e.2,am,h))}:=by unfold gS;refine Z M7 ?_;rfl
theorem Ab{S:Ls}{am:List Int}{h:Nat}{t:Int}:∀{l:List (Int×Int)},t∉l.map (·.1)->(gS S l am h).tl t=S.tl t:=by
 have:∀(l:List (Int×Int)) (f:Int->Option (Int×List Int×Nat)),t∉l.map (·.1)->l.foldl (λT e=>aH T e.1 (U (e.2,am,h))) f t=f t:=by
  intro l;induction l with
  |nil=>intro f _;rfl
  |cons e l i=>intro f m;simp only[Ln,KM,not_or] at m;exact(i _ m.2).trans (ai.M.aI _ _ m.1)
 exact λ{l} m=>this l S.tl m
theorem vB{S:Ls}{am:List Int}{p:Int×List Int×Nat}:∀{l:List (Int×Int)},(gS S l am H).tl t=U p->S.tl t=U p\/∃e∈l,e.1=t/\p=(e.2,am,H):=by
 have:∀(l:List (Int×Int)) (f:Int->Option (Int×List Int×Nat)),l.foldl (λT e=>aH T e.1 (U (e.2,am,H))) f t=U p->f t=U p\/∃e∈l,e.1=t/\p=(e.2,am,H):=by
  intro l;induction l with
  |nil=>intro f h;exact .inl h
  |cons e l i=>
   intro f h;refine KS (i _ h) (λk=>?_) λr=>aD r λE m k=>.inr ⟨E,KP _ m,k⟩
   ·have k:aH f e.1 (U (e.2,am,H)) t=U p:=k
    by_cases c:t=e.1
    ·rw[c,ai.M.aP] at k
     (replace k:=KC k;clear h i;subst k)
     exact .inr ⟨e,KJ,c.symm,rfl⟩
    ·replace k:=(ai.M.aI _ _ c)▸k;exact .inl k
 exact λ{l} h=>this l S.tl h
theorem ed.GJ(L:ed A cs S){f:Int->Option (Int×List Int×Nat)}{g:Int->Option V}(e:g=λt=>(f t).map ic):ed (A.set 47 S.g (.dI fC g)) cs {S with tl:=f}:=
 ⟨L.cl,L.mX,L.gK,L.bJ,L.a0,L.la,L.wd,by refine Z e ?_;exact if_pos ⟨rfl,rfl⟩,L.eq⟩
theorem ed.G2(L:ed A cs S){f:List Int->Option (List Int×Nat)}{g:List Int->Option V}(e:g=λt=>(f t).map jv):ed (A.set 48 S.g (.dP gw g)) cs {S with eq:=f}:=
 ⟨L.cl,L.mX,L.gK,L.bJ,L.a0,L.la,L.wd,L.tl,Z e (if_pos ⟨rfl,rfl⟩)⟩
theorem isSome_map{a b:Type}{f:a->b}{o:Option a}:(o.map f).isSome=o.isSome:=by induction o<;>rfl
theorem wo{f:Int->Option (Int×List Int×Nat)}(v:Int×List Int×Nat):fd (λx=>(f x).map ic) t (U (ic v))=λx=>(aH f t (U v) x).map ic:=dq (U v)
noncomputable def EK(A:AH)(am:List Int)(m:Nat)(x x6 x7 x8 x9:Option V):aV:=[U (.ref (A.R 42 0)),U Me,U (.ref (A.R 49 0)),U (.fl (ae am)),U (.int (m:Nat)),x,x6,x7,x8,x9]
structure NS(A0 A:AH)(h:Hp)(cs:List Int)(M:Hs)(c:Int->Int)(S:Ls):Prop where
 R:AR h A
 H:ah A (M.eJ [])
 L:ed A cs S
 s:fv A0 A
 d:A.o 49 0=U (.dI ar (hX c))
inductive NT(A0:AH)(cs:List Int)(M:Hs)(c:Int->Int)(S:Ls)(am:List Int)(m:Nat)(out:List (Int×Int))(l:List V)(J:aV)(h:Hp):Prop
 |mk (A:AH) (L b:List (Int×Int)) (x x6:Option V) (e:l=b.map vk) (E:out=L++b) (a:J=EK A am m x x6 KF KF KF) (N:NS A0 A h cs M c (gS S L am m))
inductive NI(A0:AH)(cs:List Int)(M:Hs)(c:Int->Int)(S:Ls)(am:List Int)(m k:Nat)(x x6:Option V)(g:Option V->Prop)(l:List V)(J:aV)(h:Hp):Prop
 |mk (A:AH) (j:Nat) (S':Ls) (x8 x9:Option V) (e:l=((LP k).map λ(i:Nat)=>V.int i).drop j) (a:J=EK A am m x x6 (U (.fl (ae ar))) x8 x9) (G:g x8) (N:NS A0 A h cs M c S') (E:kR S S' c am m)
theorem kR.dZ{S:Ls}{c:Int->Int}{am:List Int}{m i j:Nat}(N:kR S S' c am m)(l:i<j)(L:j<9)(e:c (3+(j:Int))=c (3+(i:Int))):kR S {S' with eq:=aH S'.eq [(j:Int),(i:Int)] (U (am,m))} c am m:=by
 refine⟨λkey p h=>?_,Z N.b5 rfl⟩;have h:aH S'.eq [(j:Int),(i:Int)] (U (am,m)) key=U p:=h;by_cases C:key=[(j:Int),(i:Int)]
 ·rw[C,ai.M.aP] at h
  obtain rfl:=KC h;exact .inr ⟨j,i,l,L,C,e,rfl⟩
 ·rw[ai.M.aI _ _ C] at h
  exact N.eq key p h
theorem yl{j:Nat}(h:j<9):aj (3+(j:Int)):=by unfold aj;lia
noncomputable def Jq:List St:=match gW.body.drop 3 with
 |.for _ _ [.for _ _ b]::_=>b
 |_=>[]
theorem uH{c:Int->Int}{am:List Int}{i j:Nat}{P:PS}(N:NS A0 A h cs M c S')(E:kR S S' c am m)(L:i<j)(l:j<9)
  (q:∀h' A' S',NS A0 A' h' cs M c S'->kR S S' c am m->P .next (EK A' am m x x6 (U (.fl (ae ar))) (U (.int j)) (U (.int i))) h'):
  St.bh G1 (lw n) Jq (EK A am m x x6 (U (.fl (ae ar))) (U (.int j)) (U (.int i))) P h:=by
 refine ab (je l) (cK N.R N.d (rd (yl l)) (ab (je (Ml L l)) (cK N.R N.d (rd (yl (Ml L l))) ?_)));by_cases C:c (3+(j:Int))=c (3+(i:Int))
 ·refine j9 C ⟨(by decide:2<=aN),dm N.R N.L.bJ (i:="equal") rfl (y5 N.R N.L.eq (i:=[(j:Int),(i:Int)]) rfl (Z isSome_map ?_))⟩
  induction H:(S'.eq [(j:Int),(i:Int)]).isSome with
  |true=>exact bI rfl (q _ _ _ N E)
  |false=>exact bW rfl ⟨(by decide:2<=aN),dm N.R N.L.bJ (i:="equal") rfl ⟨(by decide:2<=aN),nU N.R N.L.eq (i:=[(j:Int),(i:Int)]) rfl (x1 j l i L) λa r=>q _ (A.set 48 S'.g _) _ ⟨r,N.H.rZ (.set rfl),N.L.G2 (eZ (f:=S'.eq) (e:=jv) (t:=[(j:Int),(i:Int)]) (U (am,m))),⟨N.s.a,N.s.b,N.s.c⟩,N.d⟩ (E.dZ L l C)⟩⟩
 ·exact ju C (q _ _ _ N E)
theorem zn{c:Int->Int}{am:List Int}{X:Option V}{P:PS}(N:NS A0 A h cs M c S)(q:∀h' A' S' J,NS A0 A' h' cs M c S'->kR S S' c am m->P (.ret (.bool true)) J h'):
  St.bh G1 (lw n) (gW.body.drop 2) (EK A am m X x6 KF KF KF) P h:=by
 refine aY (dm N.R N.L.bJ (i:="some") rfl ⟨aX rfl,(by decide:9<=aN),by decide,by decide,ab (jd 9) (iV (NI A0 cs M c S am m 9 X x6 λ_=>True) (λv l J H K I k=>?_) (λJ H I=>?_) _ ⟨A,0,S,_,_,rfl,rfl,trivial,N,λ_ _ h=>.inl h,rfl⟩)⟩)
 ·obtain⟨u,j,w,x8,x9,e,f,g,o,p⟩:=I
  subst f;refine cH (f1 e.symm) λlt E a=>?_;subst E;clear e;subst a;refine⟨aX rfl,Lw j,MF.mpr (KB (Lq lt) (by decide)),ab (jd j) (iV (NI A0 cs M c S am m j X x6 λx=>x=U (.int j)) (λv l J B R r C=>?_) (λJ B r=>?_) _ ⟨u,0,w,_,_,rfl,rfl,rfl,o,p⟩)⟩
  ·obtain⟨y,i,z,x8,x9,e,f,g,s,t⟩:=r
   subst g;subst f;refine cH (f1 e.symm) λL b d=>?_;subst b;clear e;subst d;exact⟨aX rfl,uH s t L lt λT D F G Q=>C _ _ ⟨D,i+1,F,_,_,rfl,rfl,rfl,G,Q⟩⟩
  ·obtain⟨y,i,z,x8,x9,e,f,g,s,t⟩:=r
   exact k _ _ ⟨y,j+1,z,x8,x9,rfl,f,trivial,s,t⟩
 ·obtain⟨u,j,w,x8,x9,e,f,g,o,p⟩:=I
  exact q _ _ _ _ o p
theorem uL{c:Int->Int}{am:List Int}{P:PS}{out:List (Int×Int)}(N:NS A0 A h cs M c S)(H:BC M out)(p:∀t∈M.a4,t∈fC/\(S.wd t).isSome=true)(T:∀t∈M.a4,M.a7 t≠KF->S.tl t=KF)
  (q:∀h' A' x x6,NS A0 A' h' cs M c (gS S out am m)->P .next (EK A' am m x x6 KF KF KF) h'):
  ∃k,dp (λv J Q h=>Tg.wp G1 (lw n) (.aA [.var 5,.var 6]) v J Q h) (λJ Q h=>St.bh G1 (lw n) [.cF (.or [.bV .eW (.var 5) (.sub (.var 0) (.aE (.str "watched"))),.bV .dK (.var 5) (.sub (.var 0) (.aE (.str "told")))]) [.ret (.aE (.bool false))] [],
   .a8 (.sub (.sub (.var 0) (.aE (.str "told"))) (.var 5)) (.aA [.var 6,.var 3,.var 4])] J Q h) k (.bp (out.map vk)) (EK A am m x x6 KF KF KF) P h:=by
 refine iV (NT A0 cs M c S am m out) (λv l J s K I k=>?_) (λJ s I=>?_) _ ⟨A,[],out,_,_,rfl,rfl,rfl,N⟩
 ·obtain⟨j,L,b,x,x6,d,E,g,a⟩:=I
  subst g;induction b using Lx with
  |nil=>cases d
  |cons e b=>
  obtain⟨rfl,rfl⟩:=Ly d;refine ay (H.2 e (Z E (K1 _ KJ))) λo r=>aD r λy C z=>ay (p _ o) λu w=>?_;have D:=H.1;simp only[E,La,Ln] at D;exact⟨rfl,aX rfl,aX rfl,dm a.R a.L.bJ (i:="watched") rfl (fO a.R a.L.wd (Z isSome_map (Z (show((gS S L am m).wd e.1).isSome=true from w) (bI rfl (dm a.R a.L.bJ (i:="told") rfl (q8 a.R a.L.tl (Z ((Ab (λm=>(L7.mp D).2.2 _ m _ KJ rfl:e.1∉L.map (·.1))).trans (T _ o (by rw[C];exact λe=>nomatch e)):(gS S L am m).tl e.1=KF) (bI rfl (aY ⟨(by decide:3<=aN),dm a.R a.L.bJ (i:="told") rfl (cD a.R a.L.tl u λB R=>k _ _ ⟨j.set 47 S.g _,L++[e],b,_,_,rfl,by rw[K7];exact E,rfl,R,a.H.rZ (.set rfl),by simp only[vi];exact a.L.GJ (wo (f:=(gS S L am m).tl) (t:=e.1) (e.2,am,m)),⟨a.s.a,a.s.b,a.s.c⟩,a.d⟩)⟩)))))))))⟩
 ·obtain⟨j,L,b,x,x6,d,E,g,a⟩:=I
  subst g;induction b using Lx with
  |cons=>cases d
  |nil=>
  rw[K8] at E;subst E;exact q _ _ _ _ a
theorem kb(R:AR h A)(H:ah A M)(L:ed A cs S){c:Int->Int}{am:List Int}(hd:A.o 49 0=U (.dI ar (hX c)))(b:∀t∈M.a4,t∈fC/\(S.wd t).isSome=true)(T:∀t∈M.a4,M.a7 t≠KF->S.tl t=KF)(e:S.a0.length<=1000)
  (q:∀h' A' out S',AR h' A'->ah A' (M.eJ [])->ed A' cs S'->fv A A'->BC M out->kR (gS S out am S.a0.length) S' c am S.a0.length->Q (.bool true) h'):
  lw (n+2) "_law_noted" [.ref (A.R 42 0),Me,.ref (A.R 49 0),.fl (ae am)] Q h:=by
 have l:(aO A S.a0.length).length=S.a0.length:=by unfold aO;(refine Z (KE _) ?_;exact Z LN rfl)
 refine ab tD ⟨rfl,dm R L.bJ (i:="levels") rfl (cE R L.a0 ⟨by refine Z l ?_;exact KB e (by decide),⟨aX rfl,?_⟩⟩)⟩;refine Z l ?_;refine bX R H rfl sK (ax (B3 R H (λt m=>(b t m).1) λp d out r g f o=>?_));have s:fv A d:=fv.of (f.bU na);exact hR s.c (hR (cJ f rfl:d.R 49 0=A.R 49 0) (ab (a:=It.bp (out.map vk)) rfl (uL ⟨r,g,L.fr (f.bU na),s,(f 49 0 rfl).1.trans hd⟩ o b T λu v x x6 j=>zn j λw y k J N E=>⟨_,_,.refl,q _ _ out k N.R N.H N.L N.s o E⟩)))
section
variable {E:List ci}
theorem CE{k:Nat}{g:Int->Option V}(R:AR h A)(e:A.o k t=U (.dI u g))(H:u.length<64)(q:∀l:List Int,(∀r,r∈l↔(g r).isSome=true)->l.length<=u.length->newList (ae l) Q h):qI .sorted [.ref (A.R k t)] Q h:=by refine ii (R.dI e) λes E a b d c=>?_;have L:=gk a b;refine wA E ⟨KU L H,q _ (λr=>?_) (Z (iA _) (Z (KE _) L))⟩;simp only[hB,<-fi,c]
theorem BW{k:Nat}{g:List Int->Option V}(R:AR h A)(e:A.o k t=U (.dP u g))(H:u.length<64)(n:∀x∈u,x≠[])(q:∀l:List (List Int),(∀r,r∈l↔(g r).isSome=true)->l.length<=u.length->newList (l.map λl=>V.aA (ae l)) Q h):qI .sorted [.ref (A.R k t)] Q h:=by refine ii (R.dP e) λes a b E d c=>?_;have L:=gk b E;refine wA a ⟨KU L H,λx m=>n _ (E _ (fi.mpr (Lo.mpr ⟨x,m,rfl⟩))),λl p=>q l (λr=>?_) (by(refine Z p.length_eq (Z (KE _) ?_));exact L)⟩;rw[p.mem_iff,<-fi,c]
theorem FL(l:List (List Int)):gI h .ne (.fl (l.map λl=>V.aA (ae l))) (.fl [])=U (!l.isEmpty):=by
 have H:(V.fl (l.map λl=>V.aA (ae l))).hj 8=true:=by refine(?_ :(l.map λl=>V.aA (ae l)).all (V.hj 7)=true);simp only[LS];intro x X;refine aD (Lo.mp X) λi _ e=>?_;clear X;subst e;exact nA i 5
 refine((Z H ?_):(if((V.fl (l.map λl=>V.aA (ae l))).hj 8&&true)=true then U (V.ka (l.map λl=>V.aA (ae l)) []) else KF).map (!·)=_);clear H;induction l<;>rfl
theorem ER(k:Nat)(h:pH k=true):pC k=true:=by
 unfold pC;induction a:Lk k 49 with
 |true=>rw[L0 a] at h;exact aK h
 |false=>
  induction b:Lk k 50 with
  |true=>rw[L0 b] at h;exact aK h
  |false=>rfl
theorem dC(q:ai.Ex.bh G1 C es J (HG Q) h):ai.Ex.wp G1 C (.aA es) J Q h:=q
theorem pK{a:Type}{o:Option a}{f:a->V}(h:(o.map f).isSome=true):∃p,o=U p:=by induction o with
 |none=>exact aK h
 |some p=>exact⟨p,rfl⟩
noncomputable def Ci(A:AH)(turn:Int)(x3 x X x6 x7 x8 x9:Option V):aV:=[U (.ref (A.R 42 0)),U Me,U (.int turn),x3,x,X,x6,x7,x8,x9,KF,KF]
theorem Af(s:A'.R 42 0=A.R 42 0):Ci A'=Ci A:=by unfold Ci;exact Z s rfl
structure AS(A0 A:AH)(h:Hp)(cs:List Int)(M:Hs)(S:Ls):Prop where
 R:AR h A
 H:ah A M
 L:ed A cs S
 s:fv A0 A
theorem AS.Ii(N:AS A0 A h cs M S)(R:AR h' A')(H:ah A' M)(f:Fr p4 A A'):AS A0 A' h' cs M S:=⟨R,H,N.L.fr f,N.s.trans (fv.of f)⟩
inductive AI(A0:AH)(cs:List Int)(M:Hs)(S:Ls)(turn:Int)(l:List V)(J:aV)(h:Hp):Prop
 |mk (A:AH) (L:List Int) (x3 x X x6 x7 x8:Option V) (e:l=ae L) (H:∀t∈L,∃p,S.tl t=U p) (E:J=Ci A turn x3 x X x6 x7 x8 KF) (N:AS A0 A h cs M S)
structure AK(F:List bm)(E:List ci)(M:Hs)(S:Ls):Prop where
 f:df F M E []
 hz:∀f∈F,f.m≠0
 eF:S.a0.flatten=F
 hF:F.length<=1000
 hT:∀t p,S.tl t=U p->m5 F M E t p.1 p.2.1/\∃a b,S.wd t=U (a,b)/\aj a/\aj b/\(M.aC t=U (a,b)\/M.aC t=U (b,a))
 hE:∀key p,S.eq key=U p->∃j k:Nat,k<j/\j<9/\key=[(j:Int),(k:Int)]/\lZ F E (3+j) (3+k) p.1
noncomputable def Il:List St:=match er.body with
 |.for _ _ b::_=>b
 |_=>[]
theorem yp{turn:Int}{x3 X:Option V}{P:PS}(K:AK F E M S)(N:AS A0 A h cs M S)(j:∃p,S.tl t=U p)
  (q:∀h' A' x X x6 x7 x8,AS A0 A' h' cs M S->P .next (Ci A' turn (U (.int t)) x X x6 x7 x8 KF) h'):St.bh G1 (lw (n+4)) Il (Ci A turn (U (.int t)) x X x6 x7 x8 KF) P h:=by
 refine cV j λB ep=>?_;obtain⟨T,am,H⟩:=B;refine ay (K.hT t _ ep) λhd r=>Bm r λa b w k l s=>aY (dm N.R N.L.bJ (i:="told") rfl (cK N.R N.L.tl (v:=ic (T,am,H)) (congrArg (Nu ic) ep) ⟨rfl,aX rfl,aX rfl,aX rfl,aY (dm N.R N.L.bJ (i:="watched") rfl (cK N.R N.L.wd (v:=b' (a,b)) (congrArg (Nu b') w) (uP rfl (aX rfl) (aX rfl) (bX N.R N.H rfl lx (a1 rfl (my N.R N.H K.f K.hz hd λu y L p c R e f G=>?_))))))⟩));have m:fR F am L a b T:=by
  refine KS s (λs=>?_) λs=>?_;·rw[s] at c;obtain rfl:=KC c;exact G
  ·rw[s] at c;obtain rfl:=KC c;exact G.symm
 have g:=N.Ii R e (f.bU yd);refine hR ((fv.of (f.bU yd)).c) (wT R g.L K.eF K.hF K.f.C.fn k l m λz C o d=>?_);have:=q _ _ (U (.int T)) (U (.fl (ae am))) (U (.int H)) (U (.int a)) (U (.int b)) (g.Ii o (e.rZ (d.bU ER)) (d.bU yc));replace this:=(Af (((fv.of (f.bU yd)).trans (fv.of (d.bU yc))).c))▸this;exact this
theorem y'{turn:Int}{X:Option V}{P:PS}(K:AK F E M S)(N:AS A0 A h cs M S)
  (q:∀h' A' x3 x X x6 x7 x8,AS A0 A' h' cs M S->St.bh G1 (lw (n+4)) (er.body.drop 1) (Ci A' turn x3 x X x6 x7 x8 KF) P h'):St.bh G1 (lw (n+4)) er.body (Ci A turn x3 x X x6 x7 x8 KF) P h:=by
 refine dm N.R N.L.bJ (i:="told") rfl (ax (CE N.R N.L.tl (by decide) λl d f=>bz (Z (bb _) (KB f (by decide))) (ab (a:=It.bp (ae l)) rfl (iV (AI A0 cs M S turn) (λv r J g s I k=>?_) (λJ g I=>?_) _ ⟨A,l,_,_,_,_,_,_,rfl,λt m=>pK ((d t).mp m),rfl,N⟩))))
 ·obtain⟨j,L,x3,x,X,x6,x7,x8,e,H,b,c⟩:=I
  cases L with
  |nil=>cases e
  |cons t L=>
  obtain⟨rfl,rfl⟩:=Ly e;subst b;exact⟨aX rfl,yp (x3:=KF) K c (H t KJ) λu o y w z B C p=>k _ _ ⟨o,L,_,_,_,_,_,_,rfl,λt m=>H t (KP _ m),rfl,p⟩⟩
 ·obtain⟨j,L,x3,x,X,x6,x7,x8,e,H,b,c⟩:=I
  subst b;exact q _ _ _ _ _ _ _ _ c
theorem A8{turn:Int}{l:List (List Int)}(h:(0:Int)<((l.map λl=>V.aA (ae l)).length:Int)):∃key,key∈l/\jt (l.map λl=>V.aA (ae l)) (turn %((l.map λl=>V.aA (ae l)).length:Int))=U (.aA (ae key)):=by
 have i:=OI turn (N9 h);have I:=Oe turn h;have lt:(turn %((l.map λl=>V.aA (ae l)).length:Int)).toNat<l.length:=by rw[KE] at i I⊢;exact(Int.toNat_lt i).mpr I
 refine⟨l[(turn %((l.map λl=>V.aA (ae l)).length:Int)).toNat],Nl lt,?_⟩;unfold jt;refine Z (if_pos i) (Z (Mz) (Z (LV lt) ?_));rfl
theorem ze{turn:Int}{X:Option V}{P:PS}(K:AK F E M S)(N:AS A0 A h cs M S)(q:∀h' A' J,AS A0 A' h' cs M S->P (.ret (.bool true)) J h'):
  St.bh G1 (lw (n+4)) (er.body.drop 1) (Ci A turn x3 x X x6 x7 x8 KF) P h:=by
 refine aY (lh (av (eT (aB rfl (aS (dm N.R N.L.bJ (i:="equal") rfl (ax (BW N.R N.L.eq (by decide) (by decide) λl c b=>bz (Z (KE _) (KB b (by decide))) ⟨aX rfl,bz (K3 _) (ab (FL l) ?_)⟩))))))));induction m:l.isEmpty with
 |true=>exact bI rfl (q _ _ _ N)
 |false=>
  have H:(0:Int)<((l.map λl=>V.aA (ae l)).length:Int):=by
   refine Z (KE _) ?_;clear b c;induction l using Lx with
   |nil=>exact aK m.symm
   |cons=>exact Sc.mpr (MR _)
  refine aD (A8 (turn:=turn) H) λkey k I=>?_;refine cV (pK ((c key).mp k)) λp ep=>?_;refine Bm (K.hE key p ep) λj i t L e hd=>?_;clear k;subst e;refine bW rfl (aY (eT (aB rfl (eg (aB rfl ⟨by refine Z (KE _) ?_;exact KB b (by decide),H,ab I ⟨rfl,aX rfl,aX rfl,?_⟩⟩)))));refine aY (dC (av (eT (eT (aB rfl (aS (dm N.R N.L.bJ (i:="some") rfl (aB rfl (ab (je L) ?_)))))))));refine av (eT (eT (aB rfl (aS (dm N.R N.L.bJ (i:="some") rfl (aB rfl (ab (je (Ml t L)) (ax (uP (by decide:2<=aN) rfl (aX rfl) ⟨aX rfl,?_⟩)))))))));refine rt (w_call (bX N.R N.H rfl du (a2 rfl rfl (uj N.R N.H K.f K.hz (yl L) (yl (Ml t L)) hd λo s u r d f G=>?_))));have a:=N.Ii r d (f.bU yd);exact hR ((fv.of (f.bU yd)).c) (hR (Af (fv.of (f.bU yd)).c) (dm r a.L.bJ (i:="equal") rfl ⟨(by decide:2<=aN),E4 r a.L.eq (i:=[(j:Int),(i:Int)]) rfl (v:=jv p) (congrArg (Nu jv) ep) (wT r a.L K.eF K.hF K.f.C.fn (yl L) (yl (Ml t L)) G λw y R g=>q _ _ _ (a.Ii R (d.rZ (g.bU ER)) (g.bU yc)))⟩))
theorem Gq(R:AR h A)(H:ah A M)(L:ed A cs S)(f:df F M E [])(hz:∀f∈F,f.m≠0)(e:S.a0.flatten=F)(c:F.length<=1000)(T:∀t p,S.tl t=U p->m5 F M E t p.1 p.2.1/\∃a b,S.wd t=U (a,b)/\aj a/\aj b/\(M.aC t=U (a,b)\/M.aC t=U (b,a)))
  (d:∀key p,S.eq key=U p->∃j k:Nat,k<j/\j<9/\key=[(j:Int),(k:Int)]/\lZ F E (3+j) (3+k) p.1){turn:Int}(q:∀h' A',AR h' A'->ah A' M->ed A' cs S->fv A A'->Q (.bool true) h'):lw (n+5) "_law_asked" [.ref (A.R 42 0),Me,.int turn] Q h:=by
 exact ab tH ⟨rfl,y' (x3:=KF) ⟨f,hz,e,c,T,d⟩ ⟨R,H,L,.refl⟩ λi l x3 x X x6 x7 x8 g=>ze ⟨f,hz,e,c,T,d⟩ g λm o J N=>⟨_,_,.refl,q _ _ N.R N.H N.L N.s⟩⟩
end
def Fa(K:Nat)(T:Int)(A A':AH):Prop:=∀k t,¬(k=K/\t=T)->A'.o k t=A.o k t/\A'.st k t=A.st k t/\A'.vr k t=A.vr k t
section
variable {Ul:AH} {k0:Nat} {t0:Int}
theorem Fa.refl:Fa k0 t0 A A:=λ_ _ _=>⟨rfl,rfl,rfl⟩
theorem Fa.trans(a:Fa k0 t0 A A')(b:Fa k0 t0 A' Ul):Fa k0 t0 A Ul:=λk t e=>⟨(b k t e).1.trans (a k t e).1,(b k t e).2.1.trans (a k t e).2.1,(b k t e).2.2.trans (a k t e).2.2⟩
theorem Fa.new{m:Nat}{x:AO}:Fa k0 t0 A (A.new k0 t0 m x):=λk t e=>⟨if_neg e,if_neg e,if_neg e⟩
theorem Fa.set{x:AO}:Fa k0 t0 A (A.set k0 t0 x):=λk t e=>⟨if_neg e,rfl,if_neg e⟩
theorem Fa.fr{p:Nat->Bool}(a:Fa k0 t0 A A')(e:p k0=false):Fr p A A':=λk t h=>a k t λq=>by replace h:=e▸q.1▸h;exact aK h
theorem nQ:(A.set k0 t0 x).o k0 t0=U x:=if_pos ⟨rfl,rfl⟩
theorem AF:(A.new k0 t0 m x).o k0 t0=U x:=if_pos ⟨rfl,rfl⟩
theorem Fa.R(a:Fa k0 t0 A A'){k:Nat}{t:Int}(e:¬(k=k0/\t=t0)):A'.R k t=A.R k t:=congrArg (cq.mk k t) (a k t e).2.1
theorem w_dict{t:V->aV->(aV->Hp->Prop)->Hp->Prop}{b:aV->PS->Hp->Prop}{Q:PS}{v:Nat}(I:List V->aV->Hp->Prop)(same:∀l J h,I l J h->h.e4 r=v/\(h.o r).isSome=true)
  (step:∀x l J h (K:aV->Hp->Prop),I (x::l) J h->(∀J h,I l J h->K J h)->t x J (n0 b (Fl.seq K Q)) h)
  (cY:∀J h,I [] J h->Q .next J h):∀(l:List V) {J:aV} {h:Hp},I l J h->∃n,dp t b n (.dict r v l) J Q h:=by
 have:∀(l:List V) J h,I l J h->dp t b (l.length+1) (.dict r v l) J Q h:=by
  intro l;induction l with
  |nil=>intro J h i;exact jh (if_pos (same _ _ _ i):(It.dict r v []).next h=U KF) (cY J h i)
  |cons x l H=>intro J h i;exact jh (if_pos (same _ _ _ i):(It.dict r v (x::l)).next h=U (U (x,.dict r v l))) (step x l J h (n0 (dp t b (l.length+1) (.dict r v l)) Q) i λJ h i=>H J h i)
 exact λl J h i=>⟨_,this l J h i⟩
theorem Bq{k:Nat}{g:Int->Option V}(R:AR h A)(e:A.o k t=U (.dI u g)):∃l:List Int,It.start h (.ref (A.R k t))=U (.dict (A.R k t) (A.vr k t) (ae l))/\∀x,x∈l↔(g x).isSome=true:=by refine ii (R.dI e) λes E b c d a=>⟨es.map (·.1),Z (nj E) (Z ((R.1 k t _ e).2) ?_),λx=>by rw[<-fi,a]⟩;rfl
theorem yY{k:Nat}{g:List Int->Option V}(R:AR h A)(e:A.o k t=U (.dP u g)):∃l:List (List Int),It.start h (.ref (A.R k t))=U (.dict (A.R k t) (A.vr k t) (l.map λl=>V.aA (ae l)))/\∀x,x∈l↔(g x).isSome=true:=by refine ii (R.dP e) λes E b c d a=>⟨es.map (·.1),?_,λx=>by rw[<-fi,a]⟩;simp only[nj E,(R.1 k t _ e).2,Qx];rfl
theorem wG{k:Nat}{a:AO}(R:AR h A)(e:A.o k t=U a):h.e4 (A.R k t)=A.vr k t/\(h.o (A.R k t)).isSome=true:=by exact ay (R.1 k t a e) λb E=>aD b λx c _=>⟨E,by refine Z c ?_;rfl⟩
noncomputable def xD{b:Type}(p:b->Bool):Option b->Option b
 |none=>KF
 |some a=>if p a=true then U a else KF
noncomputable def lM(S:Ls)(m:Nat):Ls:={S with a0:=S.a0.take m,tl:=λt=>xD (λp=>decide (p.2.2<=m)) (S.tl t),eq:=λt=>xD (λp=>decide (p.2<=m)) (S.eq t),g:=S.g+1}
noncomputable def u9{K a:Type}[DecidableEq K](f:K->Option a)(p:a->Bool)(l:List K):K->Option a:=λt=>if t∈l then xD p (f t) else KF
theorem t9{K b:Type}[DecidableEq K]{f:K->Option b}{p:b->Bool}{l:List K}{t:K}{a:b}(e:f t=U a)(h:p a=true):aH (u9 f p l) t (U a)=u9 f p (l++[t]):=by
 funext x;refine(?_ :(if x=t then U a else if x∈l then xD p (f x) else KF)=if x∈l++[t] then xD p (f x) else KF);by_cases c:x=t;·exact Z (if_pos c) (Z (if_pos (K1 _ (KG.mpr c))) (Z c (Z e ((if_pos h).symm))))
 ·refine Z (if_neg c) ?_
  by_cases d:x∈l;·exact Z (if_pos d) (Z (if_pos (KZ _ d)) rfl)
  ·exact Z (if_neg d) (Z (if_neg λm=>(KW.mp m).elim d λm=>c (KG.mp m)) rfl)
theorem qs{K b:Type}[DecidableEq K]{f:K->Option b}{p:b->Bool}{l:List K}{t:K}{a:b}(e:f t=U a)(h:p a=false):u9 f p l=u9 f p (l++[t]):=by
 funext x;refine(?_ :(if x∈l then xD p (f x) else KF)=if x∈l++[t] then xD p (f x) else KF);by_cases d:x∈l;·exact Z (if_pos d) (Z (if_pos (KZ _ d)) rfl)
 ·refine Z (if_neg d) ?_
  by_cases c:x=t;·refine Z (if_pos (K1 _ (KG.mpr c))) (Z c (Z e ((Z h ?_):KF=if p a=true then U a else KF)));rfl
  ·exact Z (if_neg λm=>(KW.mp m).elim d λm=>c (KG.mp m)) rfl
theorem sD{K b:Type}[DecidableEq K]{f:K->Option b}{p:b->Bool}{l:List K}(e:∀x,x∈l↔(f x).isSome=true):u9 f p l=λt=>xD p (f t):=by
 funext x;refine(?_ :(if x∈l then xD p (f x) else KF)=xD p (f x));by_cases d:x∈l;·exact Z (if_pos d) rfl
 ·refine Z (if_neg d) ?_
  induction c:f x with
  |none=>rfl
  |some a=>exact(d ((e x).mpr (by refine Z c ?_;rfl))).elim
theorem rg(A:AH)(n m:Nat)(h:m<=n):(aO A n).take m=aO A m:=by unfold aO;simp only[<-Nv,List.take_range,OH h]
theorem D5(n:Nat):aO (A.new 44 0 m x) n=aO A n:=Mm λi _=>rfl
noncomputable def Jd(A:AH)(g:Int)(l:V):List (String×V):=[("some",.fl (ae ar)),("inner",.ref (A.R 41 0)),("levels",l),("watched",.ref (A.R 46 0)),("told",.ref (A.R 47 g)),("equal",.ref (A.R 48 g))]
theorem ed.Kk(L:ed A cs S){k m:Nat}(h:m<=S.a0.length):ed ((A.new 44 0 k (.list (aO A m))).set 42 0 (.dS (Jd A S.g (.ref ⟨44,0,k⟩)))) cs {S with a0:=S.a0.take m}:=by
 refine⟨L.cl,L.mX,L.gK,rfl,?_,λi l e=>?_,L.wd,L.tl,L.eq⟩
 ·refine(?_ :U (AO.list (aO A m))=U (AO.list (aO _ (S.a0.take m).length)))
  simp only[Mv,OH h];rfl
 ·have e:(S.a0.take m)[i]? =U l:=e
  have:S.a0[i]? =U l:=by
   rw[Ra] at e;split at e;·exact e
   ·exact al e
  exact L.la i l this
theorem ed.fa(L:ed A cs S)(f:Fa k0 t0 A A')(h:k0=47\/k0=48)(H:S.g≠t0):ed A' cs S:=by
 have n:∀k t,k≠47->k≠48->¬(k=k0/\t=t0):=λk t a b q=>by exact KS h (λe=>a (q.1.trans e)) λe=>b (q.1.trans e)
 have N:∀k,¬(k=k0/\S.g=t0):=λk q=>H q.2;have es:zi A' S.g=zi A S.g:=by unfold zi;simp only[f.R (k:=41) (n _ _ (by decide) (by decide)),f.R (k:=44) (n _ _ (by decide) (by decide)),f.R (k:=46) (n _ _ (by decide) (by decide)),f.R (k:=47) (N _),f.R (k:=48) (N _)]
 have E:aO A' S.a0.length=aO A S.a0.length:=by unfold aO;exact Mm λi _=>congrArg V.ref (f.R (n _ _ (by decide) (by decide)))
 exact⟨L.cl,(f _ _ (n _ _ (by decide) (by decide))).1.trans L.mX,(f _ _ (n _ _ (by decide) (by decide))).1.trans L.gK,(f _ _ (n _ _ (by decide) (by decide))).1.trans (L.bJ.trans (Z es rfl)),(f _ _ (n _ _ (by decide) (by decide))).1.trans (L.a0.trans (Z E rfl)),
  λi l e=>(f _ _ (n _ _ (by decide) (by decide))).1.trans (L.la i l e),(f _ _ (n _ _ (by decide) (by decide))).1.trans L.wd,(f _ _ (N _)).1.trans L.tl,(f _ _ (N _)).1.trans L.eq⟩
theorem FG{k:Nat}{g:Int->Option V}(R:AR h A)(e:A.o k t=U (.dI u g)){x:Int}(H:(g x).isSome=true):x∈u:=by exact ii (R.dI e) λes b c E d a=>E x (Z (a _) H)
theorem F2{k:Nat}{g:List Int->Option V}(R:AR h A)(e:A.o k t=U (.dP u g)){x:List Int}(H:(g x).isSome=true):x∈u:=by exact ii (R.dP e) λes b c E d a=>E x (Z (a _) H)
theorem wg(q:ai.Ex.wp G1 C e J (oo (ai.Ex.wp G1 C i J) (zY Q)) h):ai.Ex.wp G1 C (.gj e i) J Q h:=q
theorem mH(H:fits a)(B:fits b)(q:Q (.int (a-b)) h):ub .sub (.int a) (.int b) Q h:=⟨H,B,q⟩
theorem gE{Q:aV->Hp->Prop}(q:ai.Ex.wp G1 C e J (oo (ai.Ex.wp G1 C i J) (HX v (Q J))) h):Tg.wp G1 C (.sub e i) v J Q h:=q
theorem rD{P:PS}(q:ai.Ex.wp G1 C e J (GU (Tg.wp G1 C t) (St.bh G1 C b) J (Fl.seq (n0 (St.bh G1 C r) P) P)) h):St.bh G1 C (.for t e b::r) J P h:=q
theorem tM{i k:Nat}{v:V}(E:(J[i]?).join=U (.ref (A.R k t)))(R:AR h A)(o:A.o k t=U (.dS fs))(e:bc fs f=U v)(q:Q v h):ai.Ex.wp G1 C (.sub (.var i) (.aE (.str f))) J Q h:=ab E (dm R o e q)
theorem uX{i k:Nat}{fs':List (String×V)}{P:aV->Hp->Prop}(E:(J[i]?).join=U (.ref (A.R k t)))(R:AR h A)(o:A.o k t=U (.dS fs))(l:fs.length<900)(e:bA fs f v=fs')(q:∀h',AR h' (A.set k t (.dS fs'))->P J h'):Tg.wp G1 C (.sub (.var i) (.aE (.str f))) v J P h:=ab E (zM R o l e q)
noncomputable def oW(A:AH)(g:Int)(k m:Nat)(x6 x7:Option V):aV:=[U (.ref (A.R 42 0)),U Me,U (.int (k:Int)),U (.int m),U (.ref (A.R 47 (g+1))),U (.ref (A.R 48 (g+1))),x6,x7]
theorem mu(g:Int):g≠g+1:=λe=>by omega
theorem Fa.Kw(f:Fa j t0 A0 A)(e:Lk 42 j=false){k:Nat}(h:Lk k j=false){t:Int}:A.R k t=A0.R k t:=f.R λq=>OE h q.1
inductive TT(A0:AH)(S:Ls)(k m:Nat)(s:List Int)(x7:Option V)(l:List V)(J:aV)(h:Hp):Prop
 |mk (A:AH) (L b:List Int) (x6:Option V) (e:l=ae b) (E:s=L++b) (a:J=oW A S.g k m x6 x7) (R:AR h A) (f:Fa 47 (S.g+1) A0 A) (o:A.o 47 (S.g+1)=U (.dI fC λt=>(u9 S.tl (λp=>decide (p.2.2<=m)) L t).map ic))
inductive TE(A0:AH)(S:Ls)(k m:Nat)(s:List (List Int))(x6:Option V)(l:List V)(J:aV)(h:Hp):Prop
 |mk (A:AH) (L b:List (List Int)) (x7:Option V) (e:l=b.map λl=>V.aA (ae l)) (E:s=L++b) (a:J=oW A S.g k m x6 x7) (R:AR h A) (f:Fa 48 (S.g+1) A0 A) (o:A.o 48 (S.g+1)=U (.dP gw λt=>(u9 S.eq (λp=>decide (p.2<=m)) L t).map jv))
theorem tp{a:Type}{o:Option a}{f:a->V}(h:(o.map f).isSome=true):∃p,o=U p:=by induction o with
 |none=>exact aK h
 |some p=>exact⟨p,rfl⟩
theorem C9(R:AR h A)(L:ed A cs S)(o:A.o 47 (S.g+1)=U (.dI fC λ_=>KF)){k m:Nat}{P:PS}
  (q:∀h' A' x,AR h' A'->Fa 47 (S.g+1) A A'->A'.o 47 (S.g+1)=U (.dI fC λt=>(xD (λp=>decide (p.2.2<=m)) (S.tl t)).map ic)->St.bh G1 (lw n) (bq.body.drop 5) (oW A' S.g k m x x7) P h'):
  St.bh G1 (lw n) (bq.body.drop 4) (oW A S.g k m x6 x7) P h:=by
 refine aD (Bq R L.tl) λw D M=>rD (tM rfl R L.bJ rfl (ab D (w_dict (TT A S k m w x7) (λl J h' I=>?_) (λv l J H K I B=>?_) (λJ H I=>?_) _ ⟨A,[],w,_,rfl,rfl,rfl,R,.refl,o⟩)))
 ·obtain⟨A',d,b,y,E,e,u,G,F,Q⟩:=I
  have:=wG G (L.fa F (.inl rfl) (mu _)).tl;replace this:=((F 47 S.g λq=>mu _ q.2).2.2)▸(F.R λq=>mu _ q.2)▸this;exact this
 ·obtain⟨z,d,b,y,E,e,u,r,f,g⟩:=I
  have j:=L.fa f (.inl rfl) (mu _);cases b with
  |nil=>cases E
  |cons t b=>
  obtain⟨rfl,rfl⟩:=Ly E;subst u;have mt:=(M t).mp (Z e (K1 _ KJ));refine cV (tp mt) λp ep=>?_;have s:w=(d++[t])++b:=Z (K7 _ _ _) e;have C:(λt=>(S.tl t).map ic) t=U (ic p):=congrArg (Nu ic) ep;refine⟨aX rfl,dm r j.bJ (i:="told") rfl (cK r j.tl C (aS (ab (a:=V.int p.2.2) rfl (aB rfl ?_))))⟩;by_cases c:p.2.2<=m;·exact ab (a:=true) (congrArg U (decide_eq_true (MF.mpr c))) (bW rfl (aY (dm r j.bJ (i:="told") rfl (cK r j.tl C (cD r g (FG r j.tl mt) λT N=>B _ _ ⟨z.set 47 (S.g+1) _,d++[t],b,_,rfl,s,rfl,N,f.trans .set,Z nQ (hR (t9 ep (decide_eq_true c)) (hR (wo p) rfl))⟩)))))
  ·exact ab (a:=false) (congrArg U (decide_eq_false λk=>c (MF.mp k))) (bI rfl (B _ _ ⟨z,d++[t],b,_,rfl,s,rfl,r,f,hR (qs ep (decide_eq_false c)) g⟩))
 ·obtain⟨z,d,b,y,E,e,u,r,f,g⟩:=I
  cases b with
  |cons=>cases E
  |nil=>
  subst u;rw[K8] at e;subst e;rw[sD λx=>by rw[M];exact TX (congrArg (·=true) isSome_map)] at g;exact q _ _ _ r f g
theorem GS(R:AR h A)(L:ed A cs S)(o:A.o 48 (S.g+1)=U (.dP gw λ_=>KF)){k m:Nat}{P:PS}
  (q:∀h' A' x,AR h' A'->Fa 48 (S.g+1) A A'->A'.o 48 (S.g+1)=U (.dP gw λt=>(xD (λp=>decide (p.2<=m)) (S.eq t)).map jv)->St.bh G1 (lw n) (bq.body.drop 6) (oW A' S.g k m x6 x) P h'):
  St.bh G1 (lw n) (bq.body.drop 5) (oW A S.g k m x6 x7) P h:=by
 refine aD (yY R L.eq) λw D M=>rD (tM rfl R L.bJ rfl (ab D (w_dict (TE A S k m w x6) (λl J h' I=>?_) (λv l J H K I B=>?_) (λJ H I=>?_) _ ⟨A,[],w,_,rfl,rfl,rfl,R,.refl,o⟩)))
 ·obtain⟨A',d,b,y,E,e,u,G,F,Q⟩:=I
  have:=wG G (L.fa F (.inr rfl) (mu _)).eq;replace this:=((F 48 S.g λq=>mu _ q.2).2.2)▸(F.R λq=>mu _ q.2)▸this;exact this
 ·obtain⟨z,d,b,y,E,e,u,r,f,g⟩:=I
  have j:=L.fa f (.inr rfl) (mu _);cases b with
  |nil=>cases E
  |cons t b=>
  obtain⟨rfl,rfl⟩:=Ly E;subst u;have mt:=(M t).mp (Z e (K1 _ KJ));refine cV (tp mt) λp ep=>?_;have s:w=(d++[t])++b:=Z (K7 _ _ _) e;have C:(λt=>(S.eq t).map jv) t=U (jv p):=congrArg (Nu jv) ep;refine⟨aX rfl,dm r j.bJ (i:="equal") rfl (E4 r j.eq (i:=t) (dA t) C (aS (ab (a:=V.int p.2) rfl (aB rfl ?_))))⟩;by_cases c:p.2<=m;·refine ab (a:=true) (congrArg U (decide_eq_true (MF.mpr c))) (bW rfl (aY (dm r j.bJ (i:="equal") rfl (E4 r j.eq (i:=t) (dA t) C (nU r g (dA t) (F2 r j.eq mt) λT N=>B _ _ ⟨z.set 48 (S.g+1) _,d++[t],b,_,rfl,s,rfl,N,f.trans .set,Z nQ (hR (t9 ep (decide_eq_true c)) (hR (eZ (U p)) ?_))⟩)))));rfl
  ·exact ab (a:=false) (congrArg U (decide_eq_false λk=>c (MF.mp k))) (bI rfl (B _ _ ⟨z,d++[t],b,_,rfl,s,rfl,r,f,hR (qs ep (decide_eq_false c)) g⟩))
 ·obtain⟨z,d,b,y,E,e,u,r,f,g⟩:=I
  cases b with
  |cons=>cases E
  |nil=>
  subst u;rw[K8] at e;subst e;rw[sD λx=>by rw[M];exact TX (congrArg (·=true) isSome_map)] at g;exact q _ _ _ r f g
theorem Ez(R:AR h A)(L:ed A cs S){k:Nat}{P:PS}{v w:V}
  (q:∀h',AR h' ((A.set 42 0 (.dS [("some",.fl (ae ar)),("inner",.ref (A.R 41 0)),("levels",.ref (A.R 44 0)),("watched",.ref (A.R 46 0)),("told",.ref (A.R 47 (S.g+1))),("equal",.ref (A.R 48 S.g))])).set 42 0 (.dS (zi A (S.g+1))))->P .next (oW A S.g k m x6 x7) h'):
  St.bh G1 (lw n) (bq.body.drop 6) (oW A S.g k m x6 x7) P h:=
 aY (dC (a2 rfl rfl ⟨(by decide:2<=aN),rfl,uX rfl R L.bJ (aX rfl) rfl λH r=>uX (A:=A.set 42 0 _) (k:=42) (t:=0) rfl r rfl (aX rfl) rfl λb a=>q _ a⟩))
theorem Ff(R:AR h A)(L:ed A cs S){k m:Nat}{x3 x X x6 x7:Option V}{P:PS}(a:m+k=S.a0.length)(d:S.a0.length<=1000)
  (q:∀h' A',AR h' A'->Fr pH A A'->fv A A'->ed A' cs {S with a0:=S.a0.take m}->St.bh G1 (lw n) (bq.body.drop 2) [U (.ref (A'.R 42 0)),U Me,U (.int (k:Int)),x3,x,X,x6,x7] P h'):
  St.bh G1 (lw n) (bq.body.drop 1) [U (.ref (A.R 42 0)),U Me,U (.int (k:Int)),x3,x,X,x6,x7] P h:=by
 have l:(aO A S.a0.length).length=S.a0.length:=by unfold aO;(refine Z (KE _) ?_;exact Z LN rfl)
 have M:m<=S.a0.length:=hR a (Lf _ _);have H:S.a0.length<=aN:=KB d (by decide);refine aY (wg (tM rfl R L.bJ rfl (eg (lh (av (tM rfl R L.bJ rfl (ax (cE R L.a0 ⟨by refine Z l ?_;exact H,aB rfl ?_⟩))))))));refine mH (Z l (eD H)) (eD (KB (a▸M3 _ _:k<=S.a0.length) H)) ?_;refine Z (w0 (b:=m) (by exact Z l a.symm)) ?_;refine hW (C:=lw n) (bT R L.a0) (fY (KB M H)) (Z (rg _ _ _ M) ?_);have c:(aO A m).length=m:=by unfold aO;exact Z (KE _) (Z LN rfl)
 exact c6 44 0 R (Z c (KB M H)) λK f r=>uX (A:=A.new 44 0 K _) (k:=42) (t:=0) (fs':=Jd A S.g (.ref ⟨44,0,K⟩)) rfl r L.bJ (aX rfl) rfl λg e=>q _ ((A.new 44 0 K (.list (aO A m))).set 42 0 (.dS (Jd A S.g (.ref ⟨44,0,K⟩)))) e (.trans (.new rfl) (.set rfl)) ⟨rfl,rfl,rfl⟩ (L.Kk M)
theorem Ea(R:AR h A)(L:ed A cs S){k m:Nat}{x3 x X:Option V}{P:PS}(H:S.a0.length=m)(a:m<=1000)
  (q:∀h' A',AR h' A'->Fr pH A A'->fv A A'->ed A' cs S->A'.o 47 (S.g+1)=U (.dI fC λ_=>KF)->A'.o 48 (S.g+1)=U (.dP gw λ_=>KF)->St.bh G1 (lw n) (bq.body.drop 4) (oW A' S.g k m x6 x7) P h'):
  St.bh G1 (lw n) (bq.body.drop 2) [U (.ref (A.R 42 0)),U Me,U (.int (k:Int)),x3,x,X,x6,x7] P h:=by
 have l:(aO A S.a0.length).length=m:=by unfold aO;(refine Z (KE _) ?_;exact Z LN (Z H rfl))
 refine aY (lh (av (tM rfl R L.bJ rfl (ax (cE R L.a0 ⟨by refine Z l ?_;exact KB a (by decide),aX rfl,?_⟩)))));refine Z l ?_;refine aY (dC (av (d0 (nq 47 (S.g+1) fC R (aX rfl) λK d r=>av (d0 (EZ 48 (S.g+1) gw r (by decide) λb e c=>ax ⟨(by decide:2<=aN),rfl,aX rfl,aX rfl,?_⟩))))));have F:Fa 47 (S.g+1) A (A.new 47 (S.g+1) K (.dI fC λ_=>KF)):=.new;have f:Fa 48 (S.g+1) (A.new 47 (S.g+1) K (.dI fC λ_=>KF)) ((A.new 47 (S.g+1) K (.dI fC λ_=>KF)).new 48 (S.g+1) b (.dP gw λ_=>KF)):=.new;have N:¬((47:Nat)=48/\S.g+1=S.g+1):=λq=>absurd q.1 (by decide);have:=q _ _ c (.trans (F.fr rfl) (f.fr rfl)) ⟨rfl,rfl,rfl⟩ ((L.fa F (.inl rfl) (mu _)).fa f (.inr rfl) (mu _)) ((f _ _ N).1.trans AF) AF;unfold oW at this;simp only[f.R N,oy,oy] at this;exact this
theorem nW(R:AR h A)(H:ah A M)(L:ed A cs S){s r:List Nat}{spot m:Nat}{T es:List e2}(E:M.am=s++spot::r)(t:M.ak=T++es)(P:T.length=spot)(B:iq es M N)(k:M.am.length<=aN)(lt:M.ak.length<=aN)(o:M.a4.length<=aN)
  (C:M.aU=KF\/s.length<M.j3)(a:m+(r.length+1)=S.a0.length)(c:S.a0.length<=1000)(q:∀h' A',AR h' A'->ah A' (rT M N T s)->ed A' cs (lM S m)->fv A A'->Q .none h'):
  lw (n+4) "_law_taken_back" [.ref (A.R 42 0),Me,.int ((r.length+1:Nat):Int)] Q h:=by
 refine ab kU ⟨rfl,bX R H rfl oB (a1 rfl (vl R H E t P B k lt o C λh1 u x y d=>?_))⟩;have e:fv A u:=fv.of (d.bU Hv);refine hR e.c (Ff x (L.fr (d.bU Hv)) a c λh2 A2 z D G I=>Ea z I (Z Mv (OH (hR a (Lf _ _)))) (KB (a▸Lf _ _) c) λh3 J K V W g X o8=>C9 K g X λh4 i x4 R4 f p7=>?_);have j:=g.fa f (.inl rfl) (mu _);refine GS R4 j ((f 48 _ λq=>absurd q.1 (by decide)).1.trans o8) λh5 A5 x5 R5 F p8=>?_;have l:=j.fa F (.inr rfl) (mu _);refine Ez (v:=.none) (w:=.none) R5 l λh6 R6=>?_;have b:=(((e.trans G).trans W).trans (⟨f.R λq=>absurd q.1 (by decide),f.R λq=>absurd q.1 (by decide),f.R λq=>absurd q.1 (by decide)⟩:fv J i)).trans (⟨F.R λq=>absurd q.1 (by decide),F.R λq=>absurd q.1 (by decide),F.R λq=>absurd q.1 (by decide)⟩:fv i A5);exact q _ _ R6 (((((y.rZ D).rZ V).rZ (f.fr (p:=pH) rfl)).rZ (F.fr (p:=pH) rfl)).rZ (.trans (.set rfl) (.set rfl))) ⟨l.cl,l.mX,l.gK,rfl,l.a0,l.la,l.wd,(F 47 _ λq=>absurd q.1 (by decide)).1.trans p7,p8⟩ ⟨b.a,b.b,b.c⟩
end
structure mA where
 S:Hs
 E:List ci
 F:List bm
def nZ(S:Ls)(k:Nat)(c:mA):Prop:=(∀t p,S.tl t=U p->p.2.2<=k->m5 c.F c.S c.E t p.1 p.2.1)/\∀key p,S.eq key=U p->p.2<=k->∃j i:Nat,i<j/\j<9/\key=[(j:Int),(i:Int)]/\lZ c.F c.E (3+j) (3+i) p.1
theorem rI.bv{n m:Nat}(h:n<=m)(b:rI n M):rI m M:=⟨by have:=b.tr;exact bM (lP _ _ _ _) 0x12814471291440012c5144a913128144712a1440012c5 rfl h this,b.nw,b.qu,b.xN⟩
inductive b9(n:Nat)(S:Ls):List (List bm)->mA->Prop
 |base {l c}:c.F=l->c.S.am=[]->b9 n S [l] c
 |up {L l s c}:b9 n S L s->df s.F s.S s.E []->rI n s.S->c.F=s.F++l->(∃E1,c.E=s.E++E1)->gG s.S c.S->c.S.am=s.S.am++[s.S.ak.length]->c.S.aC=s.S.aC->(∀t d,s.S.a7 t=U d->c.S.a7 t=U d)->nZ S L.length s->b9 n S (L++[l]) c
section
variable {m:Nat} {S':Ls} {T8:List (List bm)} {c c':mA}
theorem b9.Ah(h:n<=m)(k:b9 n S T8 c):b9 m S T8 c:=by
 induction k with
 |base a b=>exact .base a b
 |up _ a b d e f g i t j I=>exact .up I a (b.bv h) d e f g i t j
theorem b9.pos(k:b9 n S T8 c):0<T8.length:=by
 induction k with
 |base=>exact MR _
 |up=>exact Z KH (MR _)
theorem b9.tJ(k:b9 n S T8 c):c.F=T8.flatten:=by
 induction k with
 |base a _=>refine Z a ?_;simp
 |up _ _ _ d _ _ _ _ _ _ i=>simp only[d,i,N4];simp
theorem b9.am(k:b9 n S T8 c):c.S.am.length+1=T8.length:=by
 induction k with
 |base _ b=>refine Z b ?_;rfl
 |up _ _ _ _ _ _ g _ _ _ i=>simp only[g,KH,KH];exact congrArg (·+1) i
theorem b9.kb(k:b9 n S T8 c)(H:∀t p,S'.tl t=U p->p.2.2<T8.length->S.tl t=U p)(m:∀t p,S'.eq t=U p->p.2<T8.length->S.eq t=U p):b9 n S' T8 c:=by
 induction k with
 |base a b=>exact .base a b
 |@up T8 l s c k a b d e f g i T j I=>rw[(be _:(T8++[l]).length=T8.length+1)] at H m;refine .up (I (λt p h k=>H t p h (Na k)) λt p h k=>m t p h (Na k)) a b d e f g i T ⟨λt p h k=>j.1 t p (H t p h (Pz k)) k,λt p h k=>j.2 t p (m t p h (Pz k)) k⟩
set_option tactic.hygienic true in
theorem b9.step{L:List (List bm)}{l m:List bm}(k:b9 n S (L++[l]) c)(x:nM c.S c.E c'.S c'.E)(H:c'.F=c.F++m):b9 n S (L++[l++m]) c':=by
 generalize e:L++[l]=T8 at k
 cases k with
 |base a b=>
  rename_i o
  have:L=[]/\l=o:=by
   cases L with
   |nil=>(injection e with e;clear a;subst e);exact⟨rfl,rfl⟩
   |cons y ys=>cases ys<;>cases e
  clear e
  obtain⟨rfl,rfl⟩:=this
  exact .base (Z H (Z a rfl)) (x.am.trans b)
 |up k a b d E1 f g i T j=>
  obtain⟨rfl,E⟩:=List.append_inj' e rfl
  (injection E with E;clear e;subst E)
  obtain⟨E1,p⟩:=E1
  obtain⟨E2,q⟩:=x.pre
  exact .up k a b (by simp only[H,d,K7]) ⟨E1++E2,by simp only[q,p,K7]⟩ (f.trans x.bk) (x.am.trans g) (x.aC.trans i) (λt d h=>x.a7 t d (T t d h)) j
theorem b9.push(k:b9 n S T8 c)(f:df c.F c.S c.E [])(b:rI n c.S)(h:nZ S T8.length c):b9 n S (T8++[[]]) ⟨c.S.dg (c.S.am++[c.S.ak.length]),c.E,c.F⟩:=
 .up k f b (K8 _).symm ⟨[],(K8 _).symm⟩ (.HF rfl rfl) rfl rfl (λ_ _ h=>h) h
theorem b9.re(k:b9 n S T8 c)(X:Hs)(h:c'.S=c.S.ov X)(m:X.ak=c.S.ak)(H:X.am=c.S.am)(o:c'.E=c.E)(l:c'.F=c.F):b9 n S T8 c':=by
 induction k with
 |base a b=>exact .base (l.trans a) (Z h (H.trans b))
 |up k a b d e f g i T j=>exact .up k a b (l.trans d) (Z o e) (aD f λes t B=>Z h ⟨es,m.trans t,B.ov X⟩) (Z h (H.trans g)) (Z h i) (Z h T) j
theorem b9.pop(k:b9 n S T8 c):∀{q:Nat},1<=q->q<T8.length->∃s r,b9 n S (T8.take (T8.length-q)) s/\df s.F s.S s.E []/\rI n s.S/\nZ S (T8.length-q) s/\c.S.am=s.S.am++s.S.ak.length::r/\r.length+1=q/\gG s.S c.S/\c.S.aC=s.S.aC/\(∀t d,s.S.a7 t=U d->c.S.a7 t=U d):=by
 induction k with
 |base a b=>intro q h1 H;exact absurd H (Pm.mpr h1)
 |@up T8 l s c k a b d e f g i T j I=>
  intro q h1 H;rw[(be _:(T8++[l]).length=T8.length+1)] at H⊢;rcases Rk h1 with rfl |h1
  ·refine⟨s,[],?_,a,b,Z (Rl _ _) j,g,rfl,f,i,T⟩
   (refine Z (Rl _ _) (Z (N0 (KX _)) (Z List.take_length ?_)));exact k
  ·refine Gm (I (q:=q-1) (by omega) (by omega)) λs' r K o p m u y v R=>ay R λw x=>?_
   rw[(by lia:T8.length-(q-1)=T8.length+1-q)] at K m;refine⟨s',r++[s.S.ak.length],Z (N0 (by omega)) K,o,p,m,?_,?_,v.trans f,i.trans w,λt d h=>T t d (x t d h)⟩;·simp only[g,u,K7];rfl
   ·refine Z KH (?_ :r.length+1+1=q)
    omega
end
structure LB(i:Nat)(A:AH)(cs:List Int)(M:Hs)(S:Ls)(c:mA):Prop where
 H:ah A M
 L:ed A cs S
 cS:c.S=M
 ch:b9 i S S.a0 c
 b:rI i (M.eJ [])
 nl:M.a4.length<=300
 hq:M.aw=[]
 nu:∀t∈M.a4,t∈fC/\(S.wd t).isSome=true
 nt:∀t∈M.a4,M.a7 t≠KF->S.tl t=KF
 h1:∀t p,S.tl t=U p->p.2.2<=S.a0.length
 h2:∀t p,S.eq t=U p->p.2<=S.a0.length
 wd:∀t a b,S.wd t=U (a,b)->aj a/\aj b/\(M.aC t=U (a,b)\/M.aC t=U (b,a))
 sw:∀t,(M.aC t).isSome=true->(S.wd t).isSome=true
 ws:∀t p,S.tl t=U p->(S.wd t).isSome=true
 fl:c.F.length<=i
 hz:∀f∈c.F,f.m≠0
 fn:∀f∈c.F,aj f.x/\aj f.y
 le:S.a0.length<=i+1
structure LF(M:Hs)(S:Ls)(c:mA):Prop where
 f:df c.F M c.E []
 hc:M.aU=KF
 he:nZ S S.a0.length c
def LM(i:Nat)(A:AH)(cs:List Int)(M:Hs)(S:Ls)(c:mA):Prop:=LB i A cs M S c/\(LF M S c\/(M.aU≠KF/\M.j3=M.am.length/\DD c.F))
theorem m5.ext{F b:List bm}{E d:List ci}{t T:Int}{am:List Int}(x:nM M E N d)(i:∃f,b=F++f)(h:m5 F M E t T am):m5 b N d t T am:=by refine x4 h.ex λE0 j E1 f c p l H m r=>pc r λg n s k ok=>?_;obtain⟨E2,e⟩:=x.pre;obtain⟨o,a⟩:=i;exact⟨E0,j,E1++E2,f++o,c,p,by(exact Z e (Z l (Z (K7 _ _ _) rfl))),by(exact Z a (Z H (Z (K7 _ _ _) rfl))),m,g,x.a7 _ _ n,by refine Z x.aC ?_;exact s,k,ok⟩
theorem lZ.ext{F b:List bm}{E c:List ci}{x y:Int}{am:List Int}(k:nM M E N c)(d:∃f,b=F++f)(h:lZ F E x y am):lZ b c x y am:=by refine B2 h.ex λE0 i E1 f j H m g ok=>?_;obtain⟨E2,e⟩:=k.pre;obtain⟨l,a⟩:=d;exact⟨E0,i,E1++E2,f++l,by simp only[e,j,K7],by simp only[a,H,K7],m,g,ok⟩
theorem nZ.ext{S:Ls}{k:Nat}{c c':mA}(x:nM c.S c.E c'.S c'.E)(H:∃f,c'.F=c.F++f)(h:nZ S k c):nZ S k c':=
 ⟨λt p e l=>(h.1 t p e l).ext x H,λkey p e l=>let ⟨j,i,a,b,d,g⟩:=h.2 key p e l;⟨j,i,a,b,d,g.ext x H⟩⟩
section
variable {i:Nat} {c:mA} {T9:List (List bm)} {l:List bm} {fa:bm}
theorem ed.v2(L:ed A cs S)(e:S.a0=T9++[l]):ed (A.set 45 (T9.length:Int) (.list ((l++[fa]).map dM))) cs {S with a0:=T9++[l++[fa]]}:=by
 refine⟨L.cl,L.mX,L.gK,L.bJ,?_,λi a E=>?_,L.wd,L.tl,L.eq⟩
 ·have:(T9++[l++[fa]]).length=S.a0.length:=by simp only[e,KH,KH];rfl
  exact((Z this (L.a0)):A.o 44 0=U (.list (aO A (T9++[l++[fa]]).length)))
 ·have E:(T9++[l++[fa]])[i]? =U a:=E
  refine(?_ :(if 45=45/\(i:Int)=(T9.length:Int) then U _ else A.o 45 (i:Int))=_);rcases Nat.lt_trichotomy i T9.length with lt |rfl |gt
  ·refine Z (if_neg λq=>by omega) (L.la i a ?_)
   rw[Mb lt] at E;exact Z e (Z (Mb lt) E)
  ·refine Z (if_pos ⟨rfl,rfl⟩) ?_
   rw[Lj (KX _),MY] at E
   (replace E:=KC E;subst E);rfl
  ·rw[NU (Z KH gt)] at E
   exact al E
theorem LM.of(B:LB i A cs M S c)(F:LF M S c)(e:S.a0=T9++[l]){E:List ci}(H':ah A' N)(q:ed A' cs {S with a0:=T9++[l++[fa]]})(s:fa.m≠0)(u:aj fa.x/\aj fa.y)(x:nM M c.E N E)(b:rI (i+1) N)(Q:N.aw=[])(r:(N.aU=none/\df (c.F++[fa]) N E [])\/(N.aU≠none/\N.j3=N.am.length/\DD (c.F++[fa]))):
  LM (i+1) A' cs N {S with a0:=T9++[l++[fa]]} ⟨N,E,c.F++[fa]⟩:=by
 have L:(T9++[l++[fa]]).length=S.a0.length:=by simp only[e,KH,KH];rfl
 have X:nM c.S c.E N E:=Z B.cS x;have o:∀t,M.a7 t=none->S.tl t=none:=by
  intro t H;induction es:S.tl t with
  |none=>rfl
  |some p=>refine x4 ((F.he.1 t p es (B.h1 t p es)).ex) λ_ _ _ _ d _ _ _ _ R=>cH R λ_ hd _=>?_;replace hd:=H▸B.cS▸hd;exact al hd
 have C:=B.ch;replace C:=e▸C;refine⟨⟨H',q,rfl,(b9.kb (S':={S with a0:=T9++[l++[fa]]}) (b9.step (c':=⟨N,E,c.F++[fa]⟩) C X rfl) (λ_ _ h _=>h) (λ_ _ h _=>h)).Ah (Lv _),⟨b.tr,by refine(?_ :0+20*cls N<=300);have:=hP N;lia,b.qu,b.xN⟩,by have:=b.nw;lia,Q,λt m=>?_,λt m H=>?_,λt p h=>?_,λt p h=>?_,λt a b h=>?_,λt h=>?_,B.ws,?_,λf m=>?_,λf m=>?_,?_⟩,?_⟩;·exact KS (x.a4 t m) (λk=>B.nu t k) λg=>cH g λ_ K v=>⟨K,B.sw t v⟩
 ·refine KS (x.a4 t m) (λk=>?_) λj=>ay j λk _=>o t k
  ·by_cases d:M.a7 t=none
   ·exact o t d
   ·exact B.nt t k d
 ·exact((Z L (B.h1 t p h)):p.2.2<=(T9++[l++[fa]]).length)
 ·exact((Z L (B.h2 t p h)):p.2<=(T9++[l++[fa]]).length)
 ·exact Z x.aC (B.wd t a b h)
 ·replace h:=x.aC▸h;exact B.sw t h
 ·exact((Z KH (Ld B.fl)):(c.F++[fa]).length<=i+1)
 ·refine KS (KW.mp m) (λm=>B.hz f m) λm=>?_
  cases KG.mp m;exact s
 ·refine KS (KW.mp m) (λm=>B.fn f m) λm=>?_
  cases KG.mp m;exact u
 ·exact((Z L (Lp B.le)):(T9++[l++[fa]]).length<=_)
 ·refine KS r (λn=>ay n λw y=>?_) λr=>.inr r
  ·exact .inl ⟨y,w,((Z L (nZ.ext (c:=c) (c':=⟨N,E,c.F++[fa]⟩) X ⟨_,rfl⟩ F.he)):nZ _ (T9++[l++[fa]]).length _)⟩
theorem rI.r6(b:rI i (M.eJ []))(h:M.a4.length<=100):rI i M:=⟨b.tr,by have:=hP M;lia,b.qu,b.xN⟩
theorem tt{d:Type}{p:d->Bool}{o:Option d}{a:d}(h:xD p o=U a):o=U a/\p a=true:=by
 induction o with
 |none=>exact al h
 |some b=>
  have h:(if p b=true then U b else KF)=U a:=h;by_cases c:p b=true;·replace h:=(if_pos c)▸h;(replace h:=KC h;subst h);exact⟨rfl,c⟩
  ·replace h:=(if_neg c)▸h;exact al h
theorem LB.pop(B:LB i A cs M S c){q:Nat}(w:1<=q)(y:q<S.a0.length):∃(s:mA) (r:List Nat) (es:List e2),M.am=s.S.am++s.S.ak.length::r/\M.ak=s.S.ak++es/\iq es M (s.S.ov M)/\r.length+1=q/\
  ∀A',ah A' (rT M (s.S.ov M) s.S.ak s.S.am)->ed A' cs (lM S (S.a0.length-q))->LB i A' cs (rT M (s.S.ov M) s.S.ak s.S.am) (lM S (S.a0.length-q)) ⟨rT M (s.S.ov M) s.S.ak s.S.am,s.E,s.F⟩/\LF (rT M (s.S.ov M) s.S.ak s.S.am) (lM S (S.a0.length-q)) ⟨rT M (s.S.ov M) s.S.ak s.S.am,s.E,s.F⟩:=by
 refine Gm (B.ch.pop w y) λs r C F j H n z K R=>ay R λD o=>aD K λes t K=>?_;rw[B.cS] at n t K D o;have l:(S.a0.take (S.a0.length-q)).length=S.a0.length-q:=by refine Z Mv ?_;lia
 have T:∀{t p},(lM S (S.a0.length-q)).tl t=U p->S.tl t=U p/\p.2.2<=S.a0.length-q:=λh=>let ⟨a,b⟩:=tt h;⟨a,of_decide_eq_true b⟩;have E:∀{t p},(lM S (S.a0.length-q)).eq t=U p->S.eq t=U p/\p.2<=S.a0.length-q:=λh=>let ⟨a,b⟩:=tt h;⟨a,of_decide_eq_true b⟩;have u:s.F=(S.a0.take (S.a0.length-q)).flatten:=C.tJ;have v:c.F=S.a0.flatten:=B.ch.tJ;have sub:∀f∈s.F,f∈c.F:=by intro f m;rw[u] at m;refine Z v ?_;exact aD (RC.mp m) λx X G=>RC.mpr ⟨x,QU X,G⟩
 refine⟨s,r,es,n,t,K,z,λA' H' L=>⟨⟨H',L,rfl,b9.kb (S':=lM S (S.a0.length-q)) (b9.re (c':=⟨rT M (s.S.ov M) s.S.ak s.S.am,s.E,s.F⟩) C (rT M (s.S.ov M) s.S.ak s.S.am) rfl rfl rfl rfl rfl) (λt p h _=>(T h).1) (λt p h _=>(E h).1),⟨j.tr,?_,?_,?_⟩,KB (M6 _ _) B.nl,rfl,λt m=>B.nu t (MA.mp m).1,λt m ht=>?_,λt p h=>?_,λt p h=>?_,λt a b h=>?_,λt h=>B.sw t (Z D h),λt p h=>B.ws t p (T h).1,?_,λf m=>B.hz f (sub f m),λf m=>B.fn f (sub f m),?_⟩,⟨⟨F.C.cg rfl rfl rfl rfl rfl rfl rfl rfl rfl,⟨F.nc.nv,F.nc.np⟩,F.to⟩,rfl,?_⟩⟩⟩;·refine(?_ :0+20*cls s.S<=300);have:=hP s.S;lia
 ·refine(?_ :0+4*cls s.S<=40);have:=hP s.S;lia
 ·refine(?_ :s.S.am.length<=1000);have:=j.xN;exact this
 ·refine ay (MA.mp m) λI J=>?_
  induction e:(lM S (S.a0.length-q)).tl t with
  |none=>rfl
  |some p=>have k:=(T e).1;obtain⟨d,hd⟩:=LK.mp J;rw[B.nt t I (Z (o t d hd) λe=>nomatch e)] at k;exact al k
 ·refine((Z l ?_):p.2.2<=(S.a0.take (S.a0.length-q)).length);exact(T h).2
 ·refine((Z l ?_):p.2<=(S.a0.take (S.a0.length-q)).length);exact(E h).2
 ·refine cH (B.wd t a b h) λP Q N=>?_
  rw[D] at N;exact⟨P,Q,N⟩
 ·refine((Z u ?_):s.F.length<=i)
  have:=qH S.a0 (S.a0.length-q);rw[<-v] at this;exact KB this B.fl
 ·refine(?_ :(S.a0.take (S.a0.length-q)).length<=i+1)
  have:=B.le;omega
 ·refine((Z l ?_):nZ _ (S.a0.take (S.a0.length-q)).length _)
  refine⟨λt p h k=>x4 ((H.1 t p (T h).1 k).ex) λE0 V E1 W d p' g1 g2 g3 g=>pc g λg4 g5 g6 g7 g8=>?_,λkey p h k=>H.2 key p (E h).1 k⟩;exact⟨E0,V,E1,W,d,p',g1,g2,g3,g4,g5,g6,g7,g8⟩
end
section
variable {i j:Nat} {c:mA} {T9:List (List bm)} {l:List bm} {fa:bm}
theorem LB.bv(B:LB i A cs M S c)(h:i<=j):LB j A cs M S c:=⟨B.H,B.L,B.cS,B.ch.Ah h,B.b.bv h,B.nl,B.hq,B.nu,B.nt,B.h1,B.h2,B.wd,B.sw,B.ws,KB B.fl h,B.hz,B.fn,KB B.le (Ld h)⟩
theorem fG{c:ai.Ex}{P:PS}(q:ai.Ex.qX G1 C c J (BF (St.bh G1 C a J (Fl.seq (n0 (St.bh G1 C r) P) P)) (St.bh G1 C b J (Fl.seq (n0 (St.bh G1 C r) P) P))) h):St.bh G1 C (.cF c a b::r) J P h:=q
theorem Gz{k:Int}{P:Bool->Hp->Prop}(e:(J[i]?).join=U (.int a))(q:P (decide (a<k)) h):ai.Ex.qX G1 C (.bV .lt (.var i) (.aE (.int k))) J P h:=ab e (aS (ab (a:=decide (a<k)) rfl q))
theorem uv{P:Bool->Hp->Prop}(q:ai.Ex.qX G1 C a J (BF (ai.Ex.qX G1 C b J (BF (P true) (P false))) (P false)) h):ai.Ex.qX G1 C (.and [a,b]) J P h:=q
theorem Hn{P:Bool->Hp->Prop}(e:(J[i]?).join=U (.int a))(E:(J[j]?).join=U (.int b))(q:P (!decide (a=b)) h):ai.Ex.qX G1 C (.bV .ne (.var i) (.var j)) J P h:=ab e (ab E (IK q))
theorem e1{P:PS}(q:ai.Ex.wp G1 C e J (kE (St.bh G1 C r J P)) h):St.bh G1 C (.expr e::r) J P h:=q
theorem wr{k:Int}{P:Bool->Hp->Prop}(e:(J[i]?).join=U (.int a))(q:P (decide (a=k)) h):ai.Ex.qX G1 C (.bV .eq (.var i) (.aE (.int k))) J P h:=ab e (aS (ab (oc a k) q))
theorem zH{P:PS}(L:ed A cs S)(R:AR h A)(e:S.a0=T9++[l])(E:dM fa=.aA [.str s,.int x,.int y,.int m])(H:l.length<=1000)(b:(J[0]?).join=U (.ref (A.R 42 0)))(c:(J[3]?).join=U (.int x))(d:(J[4]?).join=U (.int y))(f:(J[5]?).join=U (.int m))
  (q:∀h',AR h' (A.set 45 (T9.length:Int) (.list ((l++[fa]).map dM)))->St.bh G1 C r J P h'):St.bh G1 C (.expr (.az (.sub (.sub (.var 0) (.aE (.str "levels"))) (.aE (.int (-1)))) "append" [.aA [.aE (.str s),.var 3,.var 4,.var 5]])::r) J P h:=by
 have n:S.a0.length=T9.length+1:=Z e (be _);have o:=L.la T9.length l (by(refine Z e (Z (Lj (KX _)) (Z (MY _) ?_)));rfl);have I:jt (aO A S.a0.length) (-1)=U (.ref (A.R 45 (T9.length:Int))):=by
  have H:(aO A S.a0.length).length=T9.length+1:=by unfold aO;(exact Z (KE _) (Z LN (Z n rfl)))
  unfold jt;refine Z (if_neg (by decide)) (Z H (Z (if_pos (by lia)) (Z ((by lia:(-1+((T9.length+1:Nat):Int)).toNat=T9.length)) ?_)));unfold aO;refine Z (Mz) (Z (List.getElem?_range (by omega)) ?_);rfl
 refine ab b (aS (dm R L.bJ (i:="levels") rfl (aS (jO R L.a0 I (ab (aq R o) ⟨rfl,av (dC (av (aS (a3 c d f ⟨(by decide:4<=aN),ax ⟨aq R o,bH R o (Z (KE _) (KU H (by decide))) λa g=>?_⟩⟩))))⟩)))));exact q a (Z La ((Z E g):AR a (A.set 45 (T9.length:Int) (.list (l.map dM++[dM fa])))))
theorem ed.push(L:ed A cs S){k:Nat}:ed ((A.new 45 (S.a0.length:Int) k (.list [])).set 44 0 (.list (aO A S.a0.length++[.ref ⟨45,(S.a0.length:Int),k⟩]))) cs {S with a0:=S.a0++[[]]}:=by
 refine⟨L.cl,L.mX,L.gK,L.bJ,?_,λi l e=>?_,L.wd,L.tl,L.eq⟩
 ·refine((congrArg (λl=>U (AO.list l)) ?_):U (AO.list _)=U (AO.list (aO _ (S.a0++[[]]).length)))
  simp only[KH];unfold aO;refine Z (rfl:S.a0.length+[([]:List bm)].length=S.a0.length+1) (Z List.range_succ (Z La ?_));congr 1;·exact Mm λi h=>congrArg V.ref ((Z (if_neg λq=>by have:=Sa.mp h;omega) rfl):cq.mk 45 i _=cq.mk 45 i (if 45=45/\(i:Int)=(S.a0.length:Int) then k else A.st 45 i))
  ·exact((Z (if_pos ⟨rfl,rfl⟩) rfl):[V.ref (cq.mk 45 _ k)]=[V.ref (cq.mk 45 _ (if 45=45/\(S.a0.length:Int)=(S.a0.length:Int) then k else _))])
 ·have e:(S.a0++[[]])[i]? =U l:=e
  refine(?_ :(if 45=45/\(i:Int)=(S.a0.length:Int) then U (AO.list []) else A.o 45 (i:Int))=_);rcases OF i S.a0.length with lt |ge
  ·refine Z (if_neg λq=>by omega) ?_
   rw[Mb lt] at e;exact L.la i l e
  ·rw[Lj ge] at e
   refine KS (Rk ge) (λE=>?_) λg=>?_
   ·rw[<-E,MY] at e
    obtain rfl:=KC e;refine Z (if_pos ⟨rfl,by rw[E]⟩) ?_;rfl
   ·rw[NU (by refine(?_ :1<=i-S.a0.length);omega)] at e
    exact al e
theorem fv.Dt{t:Int}{x:AO}:fv A (A.set 45 t x):=⟨rfl,rfl,rfl⟩
theorem Cs{P:PS}(L:ed A cs S)(R:AR h A)(l:S.a0.length<=1000)(e:(J[0]?).join=U (.ref (A.R 42 0)))
  (q:∀k h',AR h' ((A.new 45 (S.a0.length:Int) k (.list [])).set 44 0 (.list (aO A S.a0.length++[.ref ⟨45,(S.a0.length:Int),k⟩])))->St.bh G1 C r J P h'):St.bh G1 C (.expr (.az (.sub (.var 0) (.aE (.str "levels"))) "append" [.list []])::r) J P h:=by
 have H:(aO A S.a0.length).length=S.a0.length:=by unfold aO;(exact Z (KE _) (Z LN rfl))
 refine ab e (aS (dm R L.bJ (i:="levels") rfl (ab (aq R L.a0) ⟨rfl,c6 45 (S.a0.length:Int) (xs:=[]) R (K3 _) λk d a=>?_⟩)));have o:(A.new 45 (S.a0.length:Int) k (.list [])).o 44 0=U (.list (aO A S.a0.length)):=L.a0;exact⟨aq (A:=A.new 45 (S.a0.length:Int) k (.list [])) a o,bH (A:=A.new 45 (S.a0.length:Int) k (.list [])) a o (Z H (KU l (by decide))) λb c=>q k b c⟩
theorem iu{P:Bool->Hp->Prop}(q:ai.Ex.wp G1 C a J (oo (ai.Ex.wp G1 C b J) (FJ op P)) h):ai.Ex.qX G1 C (.bV op a b) J P h:=q
theorem LM.push(B:LB i A cs M S c)(F:LF M S c)(n:M.a4.length<=100)(I:i<=12)(H':ah A' (M.dg (M.am++[M.ak.length])))(L:ed A' cs {S with a0:=S.a0++[[]]}):LM (i+1) A' cs (M.dg (M.am++[M.ak.length])) {S with a0:=S.a0++[[]]} ⟨M.dg (M.am++[M.ak.length]),c.E,c.F⟩:=by
 have b:=B.b.r6 n;have f:=F.f;have H:=F.he;have v:=B.ch.am;have E:=B.le;have l:(S.a0++[[]]).length=S.a0.length+1:=be _;have e:=B.cS;clear n;subst e;refine⟨⟨H',L,rfl,(b9.kb (S':={S with a0:=S.a0++[[]]}) (b9.push B.ch f b H) (λ_ _ h _=>h) (λ_ _ h _=>h)).Ah (Lv _),⟨(b.bv (Lv _)).tr,?_,b.qu,?_⟩,B.nl,B.hq,B.nu,B.nt,λt p h=>?_,λt p h=>?_,B.wd,B.sw,B.ws,Lp B.fl,B.hz,B.fn,?_⟩,.inl ⟨⟨f.C.cg rfl rfl rfl rfl rfl rfl rfl rfl rfl,⟨f.nc.nv,f.nc.np⟩,f.to⟩,F.hc,?_⟩⟩;·refine(?_ :0+20*cls c.S<=300);have:=hP c.S;lia
 ·refine(?_ :(c.S.am++[c.S.ak.length]).length<=1000)
  refine Z (be c.S.am) ?_;lia
 ·refine(?_ :p.2.2<=(S.a0++[[]]).length);refine Z l ?_;exact Lp (B.h1 t p h)
 ·refine(?_ :p.2<=(S.a0++[[]]).length);refine Z l ?_;exact Lp (B.h2 t p h)
 ·refine(?_ :(S.a0++[[]]).length<=_);refine Z l ?_;lia
 ·refine⟨λt p h _=>?_,λkey p h _=>H.2 key p h (B.h2 key p h)⟩
  refine x4 ((H.1 t p h (B.h1 t p h)).ex) λE0 a E1 g d P G j k r=>pc r λm o q s u=>?_;exact⟨E0,a,E1,g,d,P,G,j,k,m,o,q,s,u⟩
theorem ut{c:Type}{l:List c}(h:0<l.length):∃a b,l=a++[b]:=by refine KS (QK l) (λe=>?_) λr=>g9 r λa b e=>⟨a,b,Z e (Z QM rfl)⟩;replace h:=e▸h;cases h
theorem LF.Kg(F:LF M S c):nZ S S.a0.length c:=F.he
theorem done(R:AR h A)(B:LB i A cs M S c)(F:LF M S c)(hi:i<=12)(u:M.a4.length<=100){d m:Int}(d1:0<=d)(d8:d<8)(nx:aj x)(v:aj y)(J:m≠0)
  (q:∀h' A' M' S' c',AR h' A'->LM (i+1) A' cs M' S' c'->fv A A'->S'.spot=S.spot->Q .none h'):lw (n+9) "_law_done" [.ref (A.R 42 0),Me,.int d,.int x,.int y,.int m] Q h:=by
 have H:=B.H;have L:=B.L;have b:=B.b.r6 u;refine g9 (ut B.ch.pos) λT9 l E=>?_;have K:c.F.length<20:=KU B.fl (by omega);have V:l.length<=1000:=by
  have:l.length<=c.F.length:=by simp only[B.ch.tJ,E,N4,KH];simp
  lia
 refine ab vq ⟨rfl,fG (Gz rfl ?_)⟩;by_cases W:d<4
 ·refine bW (decide_eq_true W) (zH (fa:=⟨true,x,y,m⟩) L R E rfl V rfl rfl rfl rfl λh1 e=>?_)
  have L1:=L.v2 (fa:=⟨true,x,y,m⟩) E;have g:=H.rZ (.set (k:=45) (t:=(T9.length:Int)) (x:=.list ((l++[(⟨true,x,y,m⟩:bm)]).map dM)) rfl);exact bX e g rfl xq (a3 rfl rfl rfl (A7 e g F.f K (by omega) b F.hc B.hq nx v λD w N j o f r=>lf r λE' X G p I=>q _ _ _ _ _ j (LM.of B F E o (L1.fr (f.bU na)) J ⟨nx,v⟩ X (G.bv (Lv _)) p I) (fv.Dt.trans (fv.of (f.bU na))) rfl))
 ·refine bI (decide_eq_false W) (fG (uv (Gz rfl ?_)))
  by_cases c2:d<6
  ·refine bW (decide_eq_true c2) (Hn rfl rfl ?_)
   by_cases C:x=y;·exact Z (decide_eq_true C) (bI rfl (fG (wr rfl (bI (decide_eq_false (by omega)) (fG (uv (wr rfl (bI (decide_eq_false (by omega)) (q _ _ _ _ _ R ⟨B.bv (Lv _),.inl F⟩ .refl rfl)))))))))
   ·refine Z (decide_eq_false C) (bW rfl (zH (fa:=⟨false,x,y,m⟩) L R E rfl V rfl rfl rfl rfl λh1 e=>?_))
    have g:=H.rZ (.set (k:=45) (t:=(T9.length:Int)) (x:=.list ((l++[(⟨false,x,y,m⟩:bm)]).map dM)) rfl);exact bX e g rfl rf (a3 rfl rfl rfl (sS e g F.f K (by omega) b F.hc B.hq u nx v λD w N j o f r=>lf r λE' X G p I=>q _ _ _ _ _ j (LM.of B F E o ((L.v2 (fa:=⟨false,x,y,m⟩) E).fr (f.bU na)) J ⟨nx,v⟩ X G p I) (fv.Dt.trans (fv.of (f.bU na))) rfl))
  ·refine bI (decide_eq_false c2) (fG (wr rfl ?_))
   by_cases C:d=6
   ·refine bW (decide_eq_true C) ?_
    have le:=B.le;refine Cs L R (by lia) rfl λk h1 e=>?_;have g:ah ((A.new 45 (S.a0.length:Int) k (.list [])).set 44 0 (.list (aO A S.a0.length++[.ref ⟨45,(S.a0.length:Int),k⟩]))) M:=H.rZ (.trans (.new rfl) (.set rfl));have t1:=b.tr;have t2:=b.xN;exact bX e g rfl nh (ax (uB e g (KB ((by lia:M.ak.length<=1000)) (by decide)) (KU t2 (by decide)) λD w j o f=>q _ _ _ _ _ j (LM.push B F u hi o ((L.push (k:=k)).fr (f.bU na))) ((⟨rfl,rfl,rfl⟩:fv A ((A.new 45 (S.a0.length:Int) k (.list [])).set 44 0 (.list (aO A S.a0.length++[.ref ⟨45,(S.a0.length:Int),k⟩])))).trans (fv.of (f.bU na))) rfl))
   ·refine bI (decide_eq_false C) (fG (uv (wr rfl (bW (decide_eq_true (by lia:d=7)) ?_))))
    have le:=B.le;have z:(aO A S.a0.length).length=S.a0.length:=by unfold aO;(exact Z (KE _) (Z LN rfl))
    refine iu (lh (av (eT (aB rfl (aS (dm R L.bJ (i:="levels") rfl (ax (cE R L.a0 ⟨by refine Z z ?_;exact KB ((by omega:S.a0.length<=1000)) (by decide),?_⟩))))))));refine Z z (aS ?_);by_cases c5:(1:Int)<(S.a0.length:Int)
    ·refine ab (a:=true) (congrArg U (decide_eq_true c5)) (bW rfl ?_)
     have t1:=b.tr;refine e1 (w_call (av (aB rfl (av (aB rfl (av (eg (aS (eg (lh (av (aB rfl ?_))))))))))));refine ax (zp (eg (lh (av (eT (aB rfl (aS (dm R L.bJ (i:="levels") rfl (ax (cE R L.a0 ⟨by refine Z z ?_;exact KB ((by omega:S.a0.length<=1000)) (by decide),?_⟩))))))))));refine Z z (aS ?_);have P:(0:Int)<(S.a0.length:Int)-1:=by lia
     have m0:=OI x (N9 P);have m1:=Oe x P;refine mH (eD (KB ((by lia:S.a0.length<=1000)) (by decide))) (bZ (by decide) (by decide)) (wO P (ot (bZ (by decide) (by decide)) (bZ m0 (by omega)) (ax ?_)));obtain⟨k,ek⟩:∃k:Nat,1+x %((S.a0.length:Int)-1)=(k:Int):=⟨(1+x %((S.a0.length:Int)-1)).toNat,by omega⟩;exact CM (B.pop (q:=k) (by omega) (by omega)) λs aa es em et bk er T=>Z ek (hR er (nW R H L em et rfl bk (KB b.xN (by decide)) (KB ((by lia:M.ak.length<=1000)) (by decide)) (KB u (by decide)) (.inl F.hc) (m:=S.a0.length-k) (by lia) (by lia) λD w j o L2 s2=>ay (T w o L2) λB2 f=>q _ _ _ _ _ j ⟨B2.bv (Lv _),.inl f⟩ s2 rfl))
    ·exact ab (a:=false) (congrArg U (decide_eq_false c5)) (bI rfl (q _ _ _ _ _ R ⟨B.bv (Lv _),.inl F⟩ .refl rfl))
theorem LB.spot(B:LB i A cs M S c)(F:LF M S c){k:Nat}(l:ed A' cs {S with spot:=k})(H':ah A' M):LB i A' cs M {S with spot:=k} c/\LF M {S with spot:=k} c:=
 ⟨⟨H',l,B.cS,b9.kb (S':={S with spot:=k}) B.ch (λ_ _ h _=>h) (λ_ _ h _=>h),B.b,B.nl,B.hq,B.nu,B.nt,B.h1,B.h2,B.wd,B.sw,B.ws,B.fl,B.hz,B.fn,B.le⟩,⟨F.f,F.hc,F.he⟩⟩
theorem r4{F:List bm}{c:Int->Int}(C:EE F c)(a:∀f∈F,aj f.x/\aj f.y):(∃p∈jN F,c p.1=c p.2)↔DD F:=by
 constructor
 ·rintro q;refine aD q λp m e=>?_
  rcases KM.mp m with rfl |m
  ·exact .inl ((C 7 8 (by decide) (by decide)).mp e)
  ·obtain⟨k,m⟩:=jm.mp m
   obtain⟨n,N⟩:=a _ m;exact .inr ⟨k,p.1,p.2,m,(C _ _ n N).mp e⟩
 ·rintro(h |⟨k,x,y,m,h⟩)
  ·exact⟨(7,8),KJ,(C 7 8 (by decide) (by decide)).mpr h⟩
  ·obtain⟨n,N⟩:=a _ m
   exact⟨(x,y),KP _ (jm.mpr ⟨k,m⟩),(C _ _ n N).mpr h⟩
theorem LB.kb(B:LB i A cs M S c)(F:LF M S c){C:Int->Int}(L:EE c.F C){out:List (Int×Int)}(H:BC M out)(N:kR (gS S out (c.F.map (·.m)) S.a0.length) S' C (c.F.map (·.m)) S.a0.length)(H':ah A' (M.eJ []))(x:ed A' cs S'):
  LB i A' cs (M.eJ []) S' ⟨M.eJ [],c.E,c.F⟩/\LF (M.eJ []) S' ⟨M.eJ [],c.E,c.F⟩:=by
 have E:S'.a0=S.a0:=by refine Z N.b5 ?_;rfl
 have w:S'.wd=S.wd:=by refine Z N.b5 ?_;rfl
 have T:∀t p,S'.tl t=U p->S.tl t=U p\/∃e∈out,e.1=t/\p=(e.2,c.F.map (·.m),S.a0.length):=λt p h=>vB (hR (Z N.b5 rfl:S'.tl=(gS S out (c.F.map (·.m)) S.a0.length).tl) h);have f:=F.f;have s:=B.cS;refine⟨⟨H',x,rfl,?_,B.b,K3 _,B.hq,λt m=>(nomatch m),λt m=>(nomatch m),λt p h=>?_,λt p h=>?_,λt a b h=>?_,λt h=>Z w (B.sw t h),λt p h=>?_,B.fl,B.hz,B.fn,Z E B.le⟩,⟨⟨f.C.cg rfl rfl rfl rfl rfl rfl rfl rfl rfl,⟨f.nc.nv,f.nc.np⟩,f.to⟩,F.hc,?_⟩⟩
 ·refine Z E (b9.kb (S:=S) (b9.re (c':=⟨M.eJ [],c.E,c.F⟩) B.ch (M.eJ []) (by refine Z s ?_;rfl) (by refine Z s ?_;rfl) (by refine Z s ?_;rfl) rfl rfl) (λt p h k=>?_) λt p h k=>?_)
  ·rcases T t p h with g |⟨e,_,_,rfl⟩
   ·exact g
   ·exact absurd k (M5 _)
  ·rcases N.eq t p h with g |⟨_,_,_,_,_,_,rfl⟩
   ·exact g
   ·exact absurd k (M5 _)
 ·refine Z E ?_
  rcases T t p h with g |⟨e,_,_,rfl⟩
  ·exact B.h1 t p g
  ·exact KX _
 ·refine Z E ?_
  rcases N.eq t p h with g |⟨_,_,_,_,_,_,rfl⟩
  ·exact B.h2 t p g
  ·exact KX _
 ·replace h:=w▸h;exact B.wd t a b h
 ·refine Z w ?_
  rcases T t p h with g |⟨e,n,rfl,rfl⟩
  ·exact B.ws t p g
  ·exact(B.nu _ (H.2 e n).1).2
 ·refine Z E ⟨λt p h k=>?_,λkey p h k=>?_⟩
  ·rcases T t p h with g |⟨e,n,rfl,rfl⟩
   ·refine x4 ((F.he.1 t p g k).ex) λE0 y E1 z d P D J K r=>pc r λQ G o V W=>?_
    rw[s] at G o;exact⟨E0,y,E1,z,d,P,D,J,K,Q,G,o,V,W⟩
   ·exact ay (H.2 e n) λ_ R=>aD R λd hd X=>aD (f.to _ _ hd) λP hs ok=>⟨c.E,c.F,[],[],d,P,(K8 _).symm,(K8 _).symm,rfl,f.C.gr,hd,hs,X,ok⟩
  ·rcases N.eq key p h with g |⟨j,I,l1,l2,rfl,e,rfl⟩
   ·exact F.he.2 key p g k
   ·have u:aj (3+(j:Int)):=by unfold aj;lia
    have v:aj (3+(I:Int)):=by unfold aj;lia
    refine⟨j,I,l1,l2,rfl,c.E,c.F,[],[],(K8 _).symm,(K8 _).symm,rfl,f.C.gr,KS (f.C.r6 ((L _ _ u v).mp e)) (λq=>?_) λl=>cH l λ_ _ q=>(f.C.ro _ _ u v).mp q⟩;lia
theorem ya(F:List bm):F.filterMap (λf=>U (V.int f.m))=ae (F.map (·.m)):=by
 induction F with
 |nil=>rfl
 |cons f F i=>simp only[Lg,i];rfl
theorem DO(k:Nat)(h:pH k=true):Iy k=true:=by
 unfold Iy;induction a:Lk k 40 with
 |false=>rfl
 |true=>rw[L0 a] at h;exact aK h
theorem JV(k:Nat)(h:pH k=true):pX k=true:=D1 k h
theorem Ba(R:AR h A)(B:LB i A cs M S c)(F:LF M S c){C:Int->Int}(hd:A.o 49 0=U (.dI ar (hX C)))(x:EE c.F C)(I:i<=12){P:PS}(y:J.length=17)(E:(J[6]?).join=U Me)(s:(J[7]?).join=U (.ref (A.R 42 0)))(j:∃t:Int,(J[9]?).join=U (.int t))(l:(J[14]?).join=U (.fl (c.F.map dM)))(o:(J[15]?).join=U (.ref (A.R 49 0)))
  (q:∀h' A' r S' c',AR h' A'->LB i A' cs r S' c'->LF r S' c'->r.a4.length<=10->fv A A'->S'.spot=S.spot->P .next J h'):
  St.bh G1 (lw (n+9)) [.cF (.or [.bV .mW (.az (.var 6) "conflict" []) (.aE .none),.not (.call "_law_noted" [.var 7,.var 6,.var 15,.comp (.sub (.var 16) (.aE (.int 3))) 16 (.var 14) (.none)])]) [.ret (.aE (.bool false))] [],.cF (.not (.call "_law_asked" [.var 7,.var 6,.var 9])) [.ret (.aE (.bool false))] []] J P h:=by
 refine cV j λtv j=>?_;have H:=B.H;have L:c.F.length<=12:=KB B.fl I;have z:=B.le;refine fG (ab E (bX R H rfl kC (ax (pg R H F.hc (ab s (ab E (ab o (av (mG l (c.F.length+1) (comp_map (f:=λf=>U (V.int f.m)) c.F [] (Z Nx (Z (No _) (KB L (by decide)))) (λf hf acc K D k=>?_) ?_))))))))))
 ·refine ab (a:=dM f) (by refine Z (g7 (by refine Z y ?_;decide)) ?_;rfl) ?_
  exact⟨D,k⟩
 ·refine Z (OG _) (Z (ya _) (bz (Z (bb _) (Z (KE _) (KB L (by decide)))) (ax (kb R H B.L hd (λt m=>B.nu t m) (λt m=>B.nt t m) (bM (gF _ _) 0x7003e85138c31371138 rfl I z) λh1 A1 out G Q u L1 v T N=>ay (B.kb F x T N u L1) λd g=>?_))))
  have W:G.spot=S.spot:=by refine Z N.b5 ?_;rfl
  refine fG (ab s (ab E (ab j (hR v.c (Gq Q u L1 g.f d.hz (Eq.symm d.ch.tJ) (KB L (by decide)) (λt p h=>⟨g.he.1 t p h (d.h1 t p h),?_⟩) (λkey p h=>g.he.2 key p h (d.h2 key p h)) λh2 A2 X H2 L2 s2=>q _ _ _ _ _ X ⟨H2,L2,d.cS,d.ch,d.b,d.nl,d.hq,d.nu,d.nt,d.h1,d.h2,d.wd,d.sw,d.ws,d.fl,d.hz,d.fn,d.le⟩ g (K3 _) (v.trans s2) W)))))
  ·refine cV (LK.mp (d.ws t p h)) λe w=>?_;obtain⟨a,b⟩:=e
   exact cH (d.wd t a b w) λn1 n2 n3=>⟨a,b,w,n1,n2,n3⟩
end
noncomputable def zA:List St:=match lK.body.drop 7 with
 |[.for _ _ b,_]=>b
 |_=>[]
section
variable {i j:Nat} {c:mA}
noncomputable def BD(A:AH)(e x3 x8 x9 x10 x X a b c d:Option V):aV:=[e,U (.ref (A.R 40 0)),U Bk,x3,U (.fl (ae ar)),U (.ref (A.R 41 0)),U Me,U (.ref (A.R 42 0)),x8,x9,x10,x,X,a,b,c,d]
theorem iK(s:fv A B){X c:Option V}:BD A e x3 x8 x9 x10 x X a b c d=BD B e x3 x8 x9 x10 x X a b c d:=by unfold BD;simp only[s.a,s.b,s.c]
inductive zZ(A:AH)(e x3 x8 x9:Option V):aV->Prop
 |mk (x10 x X a b c d:Option V):zZ A e x3 x8 x9 (BD A e x3 x8 x9 x10 x X a b c d)
theorem ud{P:PS}(R:AR h A)(B:LB i A cs M S c)(H:i<=13){j X:Option V}
  (q:∀h' A' C,AR h' A'->LB i A' cs M S c->A'.o 49 0=U (.dI ar (hX C))->EE c.F C->fv A A'->St.bh G1 (lw (n+9)) r (BD A' j x3 x8 x9 x10 x X a (U (.fl (c.F.map dM))) (U (.ref (A'.R 49 0))) b) P h'):
  St.bh G1 (lw (n+9)) (.a8 (.var 14) (.call "_law_standing" [.var 7])::.a8 (.var 15) (.call "_law_closed" [.var 4,.var 5,.var 14])::r) (BD A j x3 x8 x9 x10 x X a d e b) P h:=by
 have l:c.F.length<=13:=KB B.fl H;have E:S.a0.flatten=c.F:=B.ch.tJ.symm;refine aY (w_call (a1 rfl (sr R B.L (KB (KQ (congrArg Oh E)) (KB l (by decide))) ⟨aX rfl,Z E (aY (w_call (a3 rfl rfl rfl (zX R B.L.gK B.fn (KB l (by decide)) λm k C o d1 L f=>⟨aX rfl,?_⟩))))⟩)));have s:fv A k:=fv.of (f.bU yc);have g:=q m k C o ⟨B.H.rZ (f.bU ER),B.L.fr (f.bU yc),B.cS,B.ch,B.b,B.nl,B.hq,B.nu,B.nt,B.h1,B.h2,B.wd,B.sw,B.ws,B.fl,B.hz,B.fn,B.le⟩ d1 L s;rw[<-iK s] at g;exact g
theorem sC(R:AR h A)(B:LB i A cs M S c)(F:LF M S c){C:Int->Int}(hd:A.o 49 0=U (.dI ar (hX C)))(l:EE c.F C)(H:i<=12){X:Option V}{P:PS}
  (q:∀h' A' m S' c' J,AR h' A'->LB i A' cs m S' c'->LF m S' c'->m.a4.length<=10->fv A A'->S'.spot=S.spot->zZ A' d x3 x8 (U (.int t)) J->P .next J h'):
  St.bh G1 (lw (n+9)) (zA.drop 6) (BD A d x3 x8 (U (.int t)) x10 x X a (U (.fl (c.F.map dM))) (U (.ref (A.R 49 0))) b) P h:=by
 exact Ba R B F hd l H rfl rfl rfl ⟨t,rfl⟩ rfl rfl λg j k o u r e f N s p=>q _ _ _ _ _ _ r e f N s p (iK s▸.mk ..)
theorem zK(R:AR h A)(D:LM i A cs M S c)(H:i<=12){x0 X:Option V}{P:PS}(qr:∀J h,P (.ret (.bool true)) J h)
  (q:∀h' A' w S' c' J,AR h' A'->LB i A' cs w S' c'->LF w S' c'->w.a4.length<=10->fv A A'->S'.spot=S.spot->zZ A' x0 x3 x8 (U (.int t)) J->P .next J h'):
  St.bh G1 (lw (n+9)) (zA.drop 3) (BD A x0 x3 x8 (U (.int t)) x10 x X k o u v) P h:=by
 refine ay D λB D=>ud R B (Lp H) λh1 A1 cc r d d1 C s1=>fG (a3 rfl rfl rfl (Cc r d.L (KB (KB B.fl H:c.F.length<=12) (by decide)) d.fn d1 (λy=>?_) λy=>KS D (λF=>sC (n:=n) r d F d1 C H λh4 A4 M4 S4 c4 J z B4 E N G I K=>q _ _ _ _ _ _ z B4 E N (s1.trans G) I K) λf=>cH f λec ev g=>aD ((r4 C d.fn).mpr g) λp m e=>(y p m e).elim))
 ·have g:=(r4 C d.fn).mp y
  refine KS D (λF=>(F.f.nc.ue F.f.C g).elim) λj=>cH j λec ev _=>?_
  ·obtain⟨l,el⟩:∃l,M.aU=U l:=by
    induction e:M.aU with
    |none=>exact(ec e).elim
    |some l=>exact⟨l,rfl⟩
   have ml:=d.ch.am;replace ml:=d.cS▸ml;have hl:(aO A1 S.a0.length).length=S.a0.length:=by unfold aO;(exact Z (KE _) (Z LN rfl))
   have le:=d.le;refine fG (iu (bX r d.H rfl kC (ax (o' r d.H el ?_))));refine aS (ab (a:=false) rfl ?_);refine bI rfl (fG (iu (lh (av (eT ?_)))));refine aB rfl (aS ?_);refine dm r d.L.bJ (i:="levels") rfl (ax (cE r d.L.a0 ⟨by refine Z hl ?_;exact KB ((by exact bM (gF _ _) 0x7003e85138c31371138 rfl H le:S.a0.length<=1000)) (by decide),?_⟩));refine Z hl (aS ?_);refine ab (oc _ _) ?_;by_cases c1:(S.a0.length:Int)=1;·exact bW (decide_eq_true c1) (qr _ _)
   ·refine bI (decide_eq_false c1) ?_
    have b:=d.b;have L:=b.tr;have t2:=b.xN;have L:M.ak.length+20*cls M<=300+20*i:=L;refine CM (d.pop (q:=1) (by decide) (by lia)) λs T es em et bk er Q=>e1 (w_call (av ?_));refine aB rfl (av ?_);refine aB rfl (av ?_);refine aS (ax ?_);have aa:V.int 1=.int ((T.length+1:Nat):Int):=by refine Z er ?_;rfl
    refine Z aa (nW r d.H d.L em et rfl bk (KB (t2:M.am.length<=1000) (by decide)) (KB ((by exact bM (ip _ _ _) 0x7003e851448c31312914471281440012c5 rfl H L:M.ak.length<=1000)) (by decide)) (KB d.nl (by decide)) (.inr ?_) (m:=S.a0.length-1) (by lia) (bM (gF _ _) 0x7003e85138c31371138 rfl H le) λh2 A2 R2 H2 L2 s2=>?_);·simp only[ev,em,KH,Lr];exact bM (gF _ _) 0x1137111387 rfl
    obtain⟨B2,F2⟩:=Q A2 H2 L2;refine Z (iK s2) (ud R2 B2 (Lp H) λh3 A3 ac af B3 d3 W s3=>?_);exact sC (n:=n) af B3 F2 d3 W H λh4 A4 M4 S4 c4 J z B4 E N G I K=>q _ _ _ _ _ _ z B4 E N (((s1.trans s2).trans s3).trans G) I K
theorem sj{i:Int}(a: -1000000000<=i)(b:i<=1000000000):fits i:=⟨Mw (by decide) a,Mw b (by decide)⟩
theorem vv(R:AR h A)(B:LB i A cs M S c)(F:LF M S c)(s:S.spot<=1000){w:Int}(H:0<w)(q:∀v,0<=v->v<w->∀h' A',AR h' A'->LB i A' cs M {S with spot:=S.spot+1} c->LF M {S with spot:=S.spot+1} c->fv A A'->Q (.int v) h'):lw (n+1) "_law_next" [.ref (A.R 40 0),.int w] Q h:=by exact next R B.L s H λv V b h' A' r l f e=>ay (B.spot F l (B.H.rZ (f.bU DO))) λd a=>q v V b h' A' r d a ⟨e,cJ f rfl,cJ f rfl⟩
theorem f0{v:Int}(V:0<=v)(a:v<9):jt (ae ar) v=U (.int (3+v))/\aj (3+v):=by refine cV (Qy V) λk e=>?_;subst e;exact⟨je (by lia),by unfold aj;lia⟩
theorem Cv(R:AR h A)(B:LB i A cs M S c)(F:LF M S c)(N:M.a4.length<=10)(H:i<=11)(s:S.spot<=500){X:Option V}{P:PS}(Q:∀J h,P (.ret (.bool true)) J h)
  (q:∀h' A' m S' c' J,AR h' A'->LB (i+1) A' cs m S' c'->LF m S' c'->m.a4.length<=10->fv A A'->S'.spot=S.spot+4->zZ A' k x3 x8 (U (.int i)) J->P .next J h'):
  St.bh G1 (lw (n+9)) zA (BD A k x3 x8 (U (.int i)) x10 x X a b d e) P h:=by
 refine aY (dC (av (w_call (av (aB rfl (av (aS (ax (vv (n:=n+8) R B F (bM (kT _) 0x7003e85137001f45 rfl s) (by decide) λD d0 w h1 A1 z C E l=>av (eT (aB rfl (w_call (av (Z (iK l) ?_))))))))))))));refine aB rfl (av (aS (ax (vv (n:=n+8) z C E (((bM (kT _) 0x1137003e85137001f45 rfl s):S.spot+1<=1000)) (by decide) λvx f g h2 A2 G I K o=>?_))));obtain⟨ex,nx⟩:=f0 f g;refine ab ex (av (eT (aB rfl (w_call (av (Z (iK o) (aB rfl (av (aS (ax (vv (n:=n+8) G I K (by refine(?_ :S.spot+1+1<=1000);exact bM (kT _) 0x1131137003e85137001f45 rfl s) (by decide) λvy y j h3 A3 L T W p=>?_)))))))))));obtain⟨ey,ny⟩:=f0 y j;refine ab ey (ax (FR (by decide:3<=aN) rfl (aX rfl) (aX rfl) ⟨aX rfl,aY (eg (eg (aB rfl (aS (ot (eD (bM (kT _) 0x7f42405137b3 rfl H)) (bZ (by decide) (by decide)) (eg (aS (eg ?_))))))))⟩));refine aS (w_call (av (Z (iK p) (aB rfl (av (aS (ax (vv (n:=n+8) L T W (((bM (kT _) 0x1131131137003e85137001f45 rfl s):S.spot+1+1+1<=1000)) (by decide) λv r m2 h4 A4 R4 B4 F4 t=>?_))))))));refine qp (bZ (by decide) (by decide)) (bZ r (by lia)) (mH (bZ (by decide) (by decide)) (sj (by lia) (by omega)) (qp (bZ (by lia) (by lia)) (sj (by lia) (by lia)) ?_));have hm:((i:Int)+2)*(1-2*v)≠0:=by
  have:v=0\/v=1:=by lia
  clear m2 r;rcases this with rfl |rfl<;>lia
 refine⟨aX rfl,Z (iK t) (e1 (w_call (av (aB rfl (av (aB rfl (av (aB rfl (av (aB rfl (av ?_)))))))))))⟩;exact aB rfl (av (aB rfl (ax (done R4 B4 F4 (bM (kT _) 0x7c3137b3 rfl H) (bM (kT _) 0x7644137a3 rfl N) d0 w nx ny hm λh5 A5 M5 S5 c5 R5 D5 u e5=>Z (iK u) (zK R5 D5 (bM (kT _) 0x1137c3137b3 rfl H) Q λh6 A6 M6 S6 c6 J R6 B6 F6 n6 s6 e6 d'=>q _ _ _ _ _ _ R6 B6 F6 n6 (((((l.trans o).trans p).trans t:fv A A4).trans u).trans s6) (Z e6 (Z e5 rfl)) d')))))
inductive Iz(m:Nat)(cs:List Int)(x x8:Option V)(l:List V)(J:aV)(h:Hp):Prop
 |mk (A:AH) (i:Nat) (M:Hs) (S:Ls) (c:mA) (x9:Option V) (e:l=((LP m).map λ(i:Nat)=>V.int i).drop i) (d':zZ A x (U (.int m)) x8 x9 J) (R:AR h A) (B:LB i A cs M S c) (F:LF M S c) (n:M.a4.length<=10) (s:S.spot<=10+4*i)
theorem Ix(R:AR h A)(B:LB 0 A cs M S c)(F:LF M S c)(N:M.a4.length<=10)(P:S.spot<=10){m:Nat}(H:m<=9){j X:Option V}(q:∀h,Q (.bool true) h):
  St.bh G1 (lw (n+9)) (lK.body.drop 7) (BD A j (U (.int m)) x8 x9 x10 x X a b d f) (Fl.cY Q) h:=by
 refine⟨Lw m,MF.mpr (KB H (by decide)),ab (jd m) (iV (Iz m cs j x8) ?_ (λJ o _=>⟨_,_,.refl,q o⟩) _ ⟨A,0,M,S,c,x9,rfl,.mk ..,R,B,F,N,P⟩)⟩;intro v l J o K I k;obtain⟨A1,i,M1,S1,c1,y9,e,d',r,t,u,w,s⟩:=I;have g:=f1 e.symm;have p:i<=8:=RB (K6 g.1 H);induction d';exact⟨aX rfl,Z g.2.1 (Cv (n:=n) r t u w (KB p (by decide)) (KB s (KB (LO (Nt 4 (KB p (by decide:8<=10))) 10:10+4*i<=50) (by decide))) (λJ h=>⟨_,_,.refl,q h⟩) λh2 y z C D J E G L T s2 W d'=>k _ _ ⟨y,i+1,z,C,D,_,g.2.2,d',E,G,L,T,KB (KQ W) (Nat.add_le_add_right s 4)⟩)⟩
end
structure kO(A:AH)(fs:List (String×V))(ops a s d:List V)(es:List (bQ×V)):Prop where
 bn:A.st 31 0=bN
 self:A.o 31 0=U (.dS fs)
 f2:bc fs "term_ops"=U (.ref (A.R 32 0))
 f3:bc fs "term_args"=U (.ref (A.R 33 0))
 f4:bc fs "term_sorts"=U (.ref (A.R 34 0))
 f5:bc fs "term_datas"=U (.ref (A.R 35 0))
 f6:bc fs "numbers"=U (.ref (A.R 36 0))
 o2:A.o 32 0=U (.list ops)
 o3:A.o 33 0=U (.list a)
 o4:A.o 34 0=U (.list s)
 o5:A.o 35 0=U (.list d)
 o6:A.o 36 0=U (.dN es)
 l2:ops.length<=100
 l3:a.length<=100
 l4:s.length<=100
 l5:d.length<=100
 l6:es.length<=100
noncomputable def pB(k:Nat):Bool:=LA k 32||LA 36 k
variable {es:List (bQ×V)}
section
variable {fs:List (String×V)} {ops Ue Uf Ug:List V}
theorem jW{v:V}{P:V->Prop}(R:AR h A)(b:A.st 31 0=bN)(o:A.o 31 0=U (.dS fs))(e:bc fs f=U v)(q:P v):bB (ai.bC h ⟨31,0,bN⟩) (r7 f P):=by have:=yV R o e q;rwa[show A.R 31 0=⟨31,0,bN⟩ from congrArg (cq.mk 31 0) b] at this
theorem mS{k:Nat}(R:AR h A)(e:A.o k t=U (.dN es)):kindOf h (.ref (A.R k t))=U false:=rM (R.dN e)
theorem Ak{k:Nat}{i:bQ}(R:AR h A)(e:A.o k t=U (.dN es))(H:gx x=U i)(q:Q ((bc es i).getD d) h):ih h (.ref (A.R k t)) "get" [x,d] Q:=kN (R.dN e) (ab H ⟨rfl,q⟩:bB (gx x) _)
theorem EB{k:Nat}{i:bQ}{P:Hp->Prop}(R:AR h A)(e:A.o k t=U (.dN es))(H:gx x=U i)(l:es.length<aN)(q:∀h',AR h' (A.set k t (.dN (bA es i v)))->P h'):gA h (.ref (A.R k t)) x v P:=j5 (R.dN e) (ab H ⟨l,q _ (R.set e rfl)⟩)
theorem iY{K b:Type}[DecidableEq K]:∀(es:List (K×b)) (k:K) (v:b),(bA es k v).length<=es.length+1
 |[],_,_=>KX _
 |(a,w)::r,k,v=>by
  refine(?_ :(if a=k then(a,v)::r else(a,w)::bA r k v).length<=_);split;·exact Lv _
  ·exact Ld (iY r k v)
theorem kp(R:AR h A)(B:kO A fs ops Ue Uf Ug es){op a s d:V}{key:bQ}(K:gx (.aA [op,a,s,d])=U key)(N:bc es key=KF)(l:ops.length<100)(L:Ue.length<100)(b:Uf.length<100)(c:Ug.length<100)(e:es.length<100)
  (q:∀h' A',AR h' A'->kO A' fs (ops++[op]) (Ue++[a]) (Uf++[s]) (Ug++[d]) (bA es key (.int ops.length))->Fr pB A A'->(∀k t,A'.st k t=A.st k t)->A'.nn=A.nn->Q (.int ops.length) h'):bw (n+1) "make" [Bk,op,a,s,d] Q h:=by
 refine ab s5 ⟨rfl,⟨(by decide:4<=aN),aX rfl,jW R B.bn B.self B.f6 (ab (mS R B.o6) ⟨rfl,mS R B.o6,Ak R B.o6 K (Z N ⟨aX rfl,?_⟩)⟩)⟩⟩;have H:∀{k:Nat},k<100->k<aN:=λh=>Ml h (by decide);refine jW R B.bn B.self B.f2 (cE R B.o2 ⟨Lq (H l),aX rfl,jW R B.bn B.self B.f2 (ib R B.o2 (H l) λm r=>jW r B.bn B.self B.f3 (ib (A:=A.set 32 0 _) r B.o3 (H L) λo f=>jW f B.bn B.self B.f4 (ib (A:=(A.set 32 0 _).set 33 0 _) f B.o4 (H b) λp g=>jW g B.bn B.self B.f5 (ib (A:=((A.set 32 0 _).set 33 0 _).set 34 0 _) g B.o5 (H c) λu i=>jW i B.bn B.self B.f6 (EB (A:=(((A.set 32 0 _).set 33 0 _).set 34 0 _).set 35 0 _) i B.o6 K (H e) λv j=>⟨_,_,.refl,q _ _ j ⟨B.bn,B.self,B.f2,B.f3,B.f4,B.f5,B.f6,rfl,rfl,rfl,rfl,rfl,?_,?_,?_,?_,KB (iY _ _ _) e⟩ (.trans (.trans (.trans (.trans (.set rfl) (.set rfl)) (.set rfl)) (.set rfl)) (.set rfl)) (λ_ _=>rfl) rfl⟩)))))⟩);·exact Z KH l
 ·exact Z KH L
 ·exact Z KH b
 ·exact Z KH c
theorem AY(R:AR h A)(B:kO A fs ops Ue Uf Ug es){op a s d:V}{key:bQ}(H:gx (.aA [op,a,s,d])=U key)(N:bc es key=U (.int k))(K:k≠0)(q:Q (.int k) h):bw (n+1) "make" [Bk,op,a,s,d] Q h:=by exact ab s5 ⟨rfl,⟨(by decide:4<=aN),aX rfl,jW R B.bn B.self B.f6 (ab (mS R B.o6) ⟨rfl,mS R B.o6,Ak R B.o6 H (Z N ⟨aX rfl,ju (a:=k) (b:=0) K ⟨_,_,.refl,q⟩⟩)⟩)⟩⟩
end
section
variable {fs:List (String×V)}
theorem gy(k:Nat)(t:Int){xs:List V}(R:AR h A)(l:xs.length<=aN)(q:∀h',AR h' (A.new k t A.nn (.list xs))->Q (.ref ⟨k,t,A.nn⟩) h'):newList xs Q h:=by unfold newList;have e:=R.2;have:=R.new k t (x:=.list xs) (a:=.list xs) rfl;rw[e] at this;exact⟨l,.inr ⟨k,t,Z e (q _ this)⟩⟩
theorem C3(k:Nat)(t:Int)(R:AR h A)(q:∀h',AR h' (A.new k t A.nn (.dN []))->Q (.ref ⟨k,t,A.nn⟩) h'):dF [] [] Q h:=by have e:=R.2;have:=R.new k t (x:=.dN []) (a:=.dN []) rfl;rw[e] at this;exact .inr (.inr ⟨k,t,Z e (q _ this)⟩)
theorem mR(k:Nat)(t:Int)(u:List Int)(R:AR h A)(l:u.length<900)(q:∀h',AR h' (A.new k t A.nn (.dI u λ_=>KF))->Q (.ref ⟨k,t,A.nn⟩) h'):dF [] [] Q h:=by have e:=R.2;have:=R.new k t (x:=.dI []) (a:=.dI u λ_=>KF) ⟨[],rfl,Mk,λ_ e=>(nomatch e),l,λ_=>rfl⟩;rw[e] at this;exact .inl ⟨k,t,Z e (q _ this)⟩
theorem wn(k:Nat)(t:Int)(u:List (List Int))(R:AR h A)(l:u.length<900)(q:∀h',AR h' (A.new k t A.nn (.dP u λ_=>KF))->Q (.ref ⟨k,t,A.nn⟩) h'):dF [] [] Q h:=by have e:=R.2;have:=R.new k t (x:=.dP []) (a:=.dP u λ_=>KF) ⟨[],rfl,Mk,λ_ e=>(nomatch e),l,λ_=>rfl⟩;rw[e] at this;exact .inr (.inl ⟨k,t,Z e (q _ this)⟩)
theorem k4{P:Hp->Prop}(R:AR h A)(b:A.st 31 0=bN)(o:A.o 31 0=U (.dS fs))(l:fs.length<900)(q:∀h',AR h' (A.set 31 0 (.dS (bA fs f v)))->P h'):bB (ai.bC h ⟨31,0,bN⟩) (BE ⟨31,0,bN⟩ f v P h):=by have:=gm R o l rfl q;rwa[show A.R 31 0=⟨31,0,bN⟩ from congrArg (cq.mk 31 0) b] at this
theorem fu{P:Prop}(R:AR h A)(b:A.st 31 0=bN)(o:A.o 31 0=U (.dS fs))(e:bc fs m=KF)(g:G1 ("Bank"++"."++m)=U .none)(q:P):(bB (ai.bC h ⟨31,0,bN⟩) (Gb m))/\bB (G1 ("Bank"++"."++m)) (sP P):=by refine⟨?_,ab g q⟩;have:=R.dS o;rw[show A.R 31 0=⟨31,0,bN⟩ from congrArg (cq.mk 31 0) b] at this;exact ab (fZ this) e
noncomputable def F7(k:Nat):List (String×V):=[("sort_names",.fl [.str "Bool",.str "Int",.str "Real"]),("sort_widths",.fl [.int 0,.int 0,.int 0]),("fun_names",.ref ⟨37,0,k⟩),("fun_args",.ref ⟨38,0,k+1⟩),("fun_results",.ref ⟨39,0,k+2⟩),("fresh_count",.int 0),("term_ops",.ref ⟨32,0,k+3⟩),("term_args",.ref ⟨33,0,k+4⟩),("term_sorts",.ref ⟨34,0,k+5⟩),("term_datas",.ref ⟨35,0,k+6⟩),("numbers",.ref ⟨36,0,k+7⟩)]
noncomputable def wc(k:Nat):Bool:=LA k 31||LA 39 k
theorem yS(R:AR h A)(E:(J[0]?).join=U Bk)(B:kO A (F7 k) [.str ""] [.aA []] [.int 0] [.int 0] [])(F:Fr wc A0 A)(N:A.nn=k+8)(o:A.st 37 0=k)(u:A.st 38 0=k+1)(v:A.st 39 0=k+2)(w:A.o 37 0=U (.list []))(x:A.o 38 0=U (.list []))(y:A.o 39 0=U (.list []))
  (q:∀h' A',AR h' A'->kO A' (F7 k++[("true_number",.int 1),("false_number",.int 2)]) [.str "",.str "true",.str "false"] [.aA [],.aA [],.aA []] [.int 0,.int 0,.int 0] [.int 0,.int 0,.int 0] [(⟨"true",[],0,.int 0⟩,.int 1),(⟨"false",[],0,.int 0⟩,.int 2)]->
   Fr wc A0 A'->A'.nn=k+8->A'.st 37 0=k->A'.st 38 0=k+1->A'.st 39 0=k+2->A'.o 37 0=U (.list [])->A'.o 38 0=U (.list [])->A'.o 39 0=U (.list [])->Q .none h'):
  St.bh G1 (a5 G1 T1 (n+1)) (iM.body.drop 11) J (Fl.cY Q) h:=by
 have p:∀k,wc k=true->pB k=true:=by intro k e;unfold wc at e;unfold pB;simp only[Mo,MZ] at*;lia
 refine aY (ab E (fu R B.bn B.self rfl gh (av (aS (av (dC (ax ⟨K3 _,kp R B (op:=.str "true") (a:=.aA []) (s:=.int 0) (d:=.int 0) (key:=⟨"true",[],0,.int 0⟩) rfl rfl (by decide) (by decide) (by decide) (by decide) (by decide) λL j z b l S C=>ab E (k4 z b.bn b.self (aX rfl) λM r=>?_)⟩)))))));have g:kO (j.set 31 0 (.dS (bA (F7 k) "true_number" (.int 1)))) (F7 k++[("true_number",.int 1)]) _ _ _ _ _:=⟨b.bn,rfl,b.f2,b.f3,b.f4,b.f5,b.f6,b.o2,b.o3,b.o4,b.o5,b.o6,b.l2,b.l3,b.l4,b.l5,b.l6⟩;refine aY (ab E (fu r g.bn g.self rfl gh (av (aS (av (dC (ax ⟨K3 _,kp r g (op:=.str "false") (a:=.aA []) (s:=.int 0) (d:=.int 0) (key:=⟨"false",[],0,.int 0⟩) rfl rfl (by decide) (by decide) (by decide) (by decide) (by decide) λP D G c m i H=>ab E (k4 G c.bn c.self (aX rfl) λT I=>?_)⟩)))))));have f:∀k t,pB k=true->k≠31->D.o k t=A.o k t:=λk t e K=>by exact Z ((m k t e).1) ((Z (if_neg λq=>K q.1) ((l k t e).1)):(if k=31/\t=0 then _ else j.o k t)=_)
 refine q _ _ I ⟨c.bn,rfl,c.f2,c.f3,c.f4,c.f5,c.f6,c.o2,c.o3,c.o4,c.o5,c.o6,c.l2,c.l3,c.l4,c.l5,c.l6⟩ (F.trans ((l.bU p).trans (.trans (.set rfl) ((m.bU p).trans (.set rfl))))) (H.trans (C.trans N)) ((i _ _).trans ((S _ _).trans o)) ((i _ _).trans ((S _ _).trans u)) ((i _ _).trans ((S _ _).trans v)) ((f 37 0 rfl (by decide)).trans w) ((f 38 0 rfl (by decide)).trans x) ((f 39 0 rfl (by decide)).trans y)
theorem yx(R:AR h A)(b:A.st 31 0=bN)(o:A.o 31 0=U (.dS []))(q:∀h' A',AR h' A'->kO A' (F7 A.nn++[("true_number",.int 1),("false_number",.int 2)]) [.str "",.str "true",.str "false"] [.aA [],.aA [],.aA []] [.int 0,.int 0,.int 0] [.int 0,.int 0,.int 0] [(⟨"true",[],0,.int 0⟩,.int 1),(⟨"false",[],0,.int 0⟩,.int 2)]->
   Fr wc A A'->A'.nn=A.nn+8->A'.st 37 0=A.nn->A'.st 38 0=A.nn+1->A'.st 39 0=A.nn+2->A'.o 37 0=U (.list [])->A'.o 38 0=U (.list [])->A'.o 39 0=U (.list [])->Q .none h'):bw (n+2) "__init__" [Bk] Q h:=by
 refine ab ((by kernel_rfl:T1 ("Bank"++"."++"__init__")=U iM)) ⟨rfl,aY (bz (by refine(?_ :3<=aN);decide) ?_)⟩;refine k4 R b o (aX rfl) λK m=>aY (bz (by refine(?_ :3<=aN);decide) ?_);refine k4 m b rfl (aX rfl) λL p=>aY (gy 37 0 p (K3 _) λM s=>k4 s b rfl (aX rfl) λN t=>aY (gy 38 0 t (K3 _) λP u=>k4 u b rfl (aX rfl) λS v=>aY ?_));refine gy 39 0 v (K3 _) λT w=>k4 w b rfl (aX rfl) λV x=>aY (aS (k4 x b rfl (aX rfl) λW y=>aY (gy 32 0 (xs:=[.str ""]) y (by refine(?_ :1<=aN);decide) λH r=>?_)));refine k4 r b rfl (aX rfl) λz a=>aY ⟨K3 _,gy 33 0 (xs:=[.aA []]) a (by refine(?_ :1<=aN);decide) λB c=>?_⟩;refine k4 c b rfl (aX rfl) λC d=>aY (gy 34 0 (xs:=[.int 0]) d (by refine(?_ :1<=aN);decide) λD e=>?_);refine k4 e b rfl (aX rfl) λE f=>aY (gy 35 0 (xs:=[.int 0]) f (by refine(?_ :1<=aN);decide) λF g=>?_);refine k4 g b rfl (aX rfl) λG i=>aY (d0 (C3 36 0 i λI j=>k4 j b rfl (aX rfl) λJ l=>yS (A0:=A) (k:=A.nn) l rfl ⟨b,rfl,rfl,rfl,rfl,rfl,rfl,rfl,rfl,rfl,rfl,rfl,by decide,by decide,by decide,by decide,by decide⟩ ?_ rfl rfl rfl rfl rfl rfl rfl q))
 repeat first |exact Fr.refl |refine Fr.trans ?_ (Fr.set rfl) |refine Fr.trans ?_ (Fr.new rfl)
end
noncomputable def Ee(k:Nat):List (String×V):=F7 k++[("true_number",.int 1),("false_number",.int 2)]
structure ek(A:AH)(k:Nat)(nm fa fr ops a s d:List V)(es:List (bQ×V)):Prop where
 B:kO A (Ee k) ops a s d es
 s7:A.st 37 0=k
 s8:A.st 38 0=k+1
 s9:A.st 39 0=k+2
 o7:A.o 37 0=U (.list nm)
 o8:A.o 38 0=U (.list fa)
 o9:A.o 39 0=U (.list fr)
section
variable {k:Nat} {nm fa fr ops Ue Uf Ug:List V}
theorem GC(k:Nat)(e:wc k=true):pB k=true:=by unfold wc at e;unfold pB;simp only[Mo,MZ] at*;lia
theorem vZ(R:AR h A)(G:ek A k nm fa fr ops Ue Uf Ug es){name r:V}(l:nm.length<50)(f:fa.length<50)(L:fr.length<50)
  (q:∀h' A',AR h' A'->ek A' k (nm++[name]) (fa++[.aA as]) (fr++[r]) ops Ue Uf Ug es->Fr wc A A'->A'.nn=A.nn->Q (.int nm.length) h'):bw (n+1) "declare_fun" [Bk,name,.aA as,r] Q h:=by
 obtain⟨B,s,S,c,o,i,j⟩:=G;have g:bc (Ee k) "fun_names"=U (.ref (A.R 37 0)):=((Z s rfl):U (V.ref ⟨37,0,k⟩)=U (V.ref ⟨37,0,A.st 37 0⟩));have m:bc (Ee k) "fun_args"=U (.ref (A.R 38 0)):=((Z S rfl):U (V.ref ⟨38,0,k+1⟩)=U (V.ref ⟨38,0,A.st 38 0⟩));have u:bc (Ee k) "fun_results"=U (.ref (A.R 39 0)):=((Z c rfl):U (V.ref ⟨39,0,k+2⟩)=U (V.ref ⟨39,0,A.st 39 0⟩));have H:∀{k:Nat},k<50->k<aN:=λh=>Ml h (by decide);refine ab ((by kernel_rfl:T1 ("Bank"++"."++"declare_fun")=U d7)) ⟨rfl,jW R B.bn B.self g (ib R o (H l) λv a=>jW a B.bn B.self m ?_)⟩;have p:(A.set 37 0 (.list (nm++[name]))).o 38 0=U (.list fa):=i;refine ab (aq (A:=A.set 37 0 _) a p) ⟨rfl,⟨aq (A:=A.set 37 0 _) a p,bH (A:=A.set 37 0 _) a p (H f) λw d=>jW d B.bn B.self u (ib (A:=(A.set 37 0 _).set 38 0 _) d (j:((A.set 37 0 (.list (nm++[name]))).set 38 0 (.list (fa++[.aA as]))).o 39 0=U (.list fr)) (H L) λx b=>jW b B.bn B.self g (cE (A:=((A.set 37 0 _).set 38 0 _).set 39 0 _) (k:=37) (t:=0) b rfl ⟨Z KH (KB (Oj l) (by decide)),?_⟩))⟩⟩
 ·refine aS (mH (eD (Z KH (KB (Oj l) (by decide)))) (bZ (by decide) (by decide)) ?_)
  have e:(((nm++[name]).length:Nat):Int)-1=nm.length:=by refine Z KH (?_ :((nm.length+1:Nat):Int)-1=_);lia
  exact Z e (⟨_,_,.refl,q _ _ b ⟨⟨B.bn,B.self,B.f2,B.f3,B.f4,B.f5,B.f6,B.o2,B.o3,B.o4,B.o5,B.o6,B.l2,B.l3,B.l4,B.l5,B.l6⟩,s,S,c,rfl,rfl,rfl⟩ (.trans (.trans (.set rfl) (.set rfl)) (.set rfl)) rfl⟩)
theorem wb(R:AR h A)(G:ek A k nm fa fr ops Ue Uf Ug es){op a s d:V}{key:bQ}(H:gx (.aA [op,a,s,d])=U key)(N:bc es key=KF)(l:ops.length<100)(L:Ue.length<100)(b:Uf.length<100)(c:Ug.length<100)(e:es.length<100)
  (q:∀h' A',AR h' A'->ek A' k nm fa fr (ops++[op]) (Ue++[a]) (Uf++[s]) (Ug++[d]) (bA es key (.int ops.length))->Fr wc A A'->A'.nn=A.nn->Q (.int ops.length) h'):bw (n+1) "make" [Bk,op,a,s,d] Q h:=by
 refine kp R G.B H N l L b c e λh' A' r B f s' g=>q h' A' r ⟨B,(s' _ _).trans G.s7,(s' _ _).trans G.s8,(s' _ _).trans G.s9,(f 37 0 rfl).1.trans G.o7,(f 38 0 rfl).1.trans G.o8,(f 39 0 rfl).1.trans G.o9⟩ (f.bU GC) g
theorem fresh(R:AR h A)(G:ek A k nm fa fr ops Ue Uf Ug es){name:V}(l:nm.length<50)(b:fa.length<50)(L:fr.length<50)(H:bc es ⟨"app",[],1,.int nm.length⟩=KF)(c:ops.length<100)(d:Ue.length<100)(e:Uf.length<100)(f:Ug.length<100)(i:es.length<100)
  (q:∀h' A',AR h' A'->ek A' k (nm++[name]) (fa++[.aA []]) (fr++[.int 1]) (ops++[.str "app"]) (Ue++[.aA []]) (Uf++[.int 1]) (Ug++[.int nm.length]) (bA es ⟨"app",[],1,.int nm.length⟩ (.int ops.length))->Fr wc A A'->A'.nn=A.nn->Q (.int ops.length) h'):
  bw (n+2) "fresh_const" [Bk,name,.int 1] Q h:=by
 refine ab ((by kernel_rfl:T1 ("Bank"++"."++"fresh_const")=U d8)) ⟨rfl,fu R G.B.bn G.B.self rfl gh (av (aS (av (dC (ax ⟨K3 _,av (aB rfl (av (fu R G.B.bn G.B.self rfl ((by kernel_rfl:G1 ("Bank"++"."++"declare_fun")=U .none)) (av (aB rfl (av (dC (ax ⟨K3 _,av (aB rfl (ax (vZ R G l b L λt u r g F N=>ax ?_)))⟩))))))))⟩)))))⟩;exact wb r g (op:=.str "app") (a:=.aA []) (s:=.int 1) (key:=⟨"app",[],1,.int nm.length⟩) rfl H c d e f i λv w j m o p=>⟨_,_,.refl,q _ _ j m (F.trans o) (p.trans N)⟩
end
section
variable {k:Nat}
noncomputable def BZ:List V:=[.str "",.str "true",.str "false"]
noncomputable def DV:List (bQ×V):=[(⟨"true",[],0,.int 0⟩,.int 1),(⟨"false",[],0,.int 0⟩,.int 2),(⟨"app",[],1,.int 1⟩,.int 3),(⟨"app",[],1,.int 2⟩,.int 4),(⟨"app",[],1,.int 3⟩,.int 5),(⟨"app",[],1,.int 4⟩,.int 6),(⟨"num",[],1,.gH [0,1]⟩,.int 7),(⟨"num",[],1,.gH [1,1]⟩,.int 8),(⟨"app",[3],1,.int 0⟩,.int 9),(⟨"app",[4],1,.int 0⟩,.int 10),(⟨"app",[5],1,.int 0⟩,.int 11)]
noncomputable def yn:List V:=[.int 0,.int 0,.int 0,.int 1,.int 1,.int 1,.int 1,.int 1,.int 1,.int 1,.int 1,.int 1]
noncomputable def Ih:List (bQ×V):=[(⟨"true",[],0,.int 0⟩,.int 1),(⟨"false",[],0,.int 0⟩,.int 2)]
noncomputable def JR:List (bQ×V):=Ih++[(⟨"app",[],1,.int 1⟩,.int 3),(⟨"app",[],1,.int 2⟩,.int 4),(⟨"app",[],1,.int 3⟩,.int 5),(⟨"app",[],1,.int 4⟩,.int 6)]
theorem Jo{P:PV}(H:J.length=7)(i:(J[0]?).join=U Bk)(R:AR h A)(G:ek A k [.str "f"] [.aA [.int 1]] [.int 1] BZ [.aA [],.aA [],.aA []] [.int 0,.int 0,.int 0] [.int 0,.int 0,.int 0] Ih)
  (q:∀h' A' nm fa fr,AR h' A'->ek A' k nm fa fr (BZ++[.str "app",.str "app",.str "app",.str "app"]) [.aA [],.aA [],.aA [],.aA [],.aA [],.aA [],.aA []] [.int 0,.int 0,.int 0,.int 1,.int 1,.int 1,.int 1] [.int 0,.int 0,.int 0,.int 1,.int 2,.int 3,.int 4] JR->Fr wc A A'->A'.nn=A.nn->P (.fl (ae [3,4,5,6])) h'):
  ai.Ex.wp G1 (lw (n+3)) (.comp (.az (.var 0) "fresh_const" [.var 6,.c5 "INT"]) 6 (.aA [.aE (.str "a"),.aE (.str "b"),.aE (.str "c"),.aE (.str "d")]) (.none)) J P h:=by
 have e:∀v,((J.set 6 v)[0]?).join=U Bk:=λv=>Z (d5 (by decide)) i;have E:∀v,((J.set 6 (U v))[6]?).join=U v:=λv=>by refine Z (g7 (by refine Z H ?_;decide)) ?_;rfl
 have f:G1 ("Bank"++"."++"fresh_const")=U .none:=by kernel_rfl
 refine⟨(by decide:4<=aN),5,ab (e _) (fu R G.B.bn G.B.self rfl f (ab (E _) (fresh R G (by decide) (by decide) (by decide) rfl (by decide) (by decide) (by decide) (by decide) (by decide) λw x r g F N=>⟨by decide,ab (e _) (fu r g.B.bn g.B.self rfl f (ab (E _) (fresh r g (by decide) (by decide) (by decide) rfl (by decide) (by decide) (by decide) (by decide) (by decide) λy z c a j l=>⟨by decide,ab (e _) (fu c a.B.bn a.B.self rfl f (ab (E _) (fresh c a (by decide) (by decide) (by decide) rfl (by decide) (by decide) (by decide) (by decide) (by decide) λB C d b m o=>⟨by decide,ab (e _) (fu d b.B.bn b.B.self rfl f (ab (E _) ?_))⟩)))⟩)))⟩)))⟩;refine fresh d b (by decide) (by decide) (by decide) rfl (by decide) (by decide) (by decide) (by decide) (by decide) λD I p s t u=>⟨by decide,bz (by refine(?_ :4<=aN);decide) (q _ _ _ _ _ p s (((F.trans j).trans m).trans t) (((u.trans o).trans l).trans N))⟩
noncomputable def Kb:List (bQ×V):=JR++[(⟨"num",[],1,.gH [0,1]⟩,.int 7),(⟨"num",[],1,.gH [1,1]⟩,.int 8)]
noncomputable def F'(k:Nat):Bool:=LA k 31||(LA 39 k&&(!(Lk k 41)&&!(Lk k 43)))
theorem Dz(k:Nat)(e:F' k=true):wc k=true:=by unfold F' at e;unfold wc;simp only[Mo,Lu,MZ] at*;lia
theorem I7{J:aV}{P:PV}{nm fa fr ops b S D:List V}{es:List (bQ×V)}{i:Nat}{x:Int}{xs:List V}(p:J.length=7)(e:(J[0]?).join=U Bk)(E:(J[1]?).join=U (.int 0))(c:(J[2]?).join=U (.ref (A.R 43 0)))(f:(J[4]?).join=U (.int i))(R:AR h A)(G:ek A k nm fa fr ops b S D es)(o:A.o 43 0=U (.list xs))(H:xs[i]? =U (.int x))
  (N:bc es ⟨"app",[x],1,.int 0⟩=KF)(l:ops.length<100)(L:b.length<100)(g:S.length<100)(j:D.length<100)(m:es.length<100)
  (q:∀h' A',AR h' A'->ek A' k nm fa fr (ops++[.str "app"]) (b++[.aA [.int x]]) (S++[.int 1]) (D++[.int 0]) (bA es ⟨"app",[x],1,.int 0⟩ (.int ops.length))->Fr wc A A'->A'.nn=A.nn->P (.int ops.length) h'):
  ai.Ex.wp G1 (lw (n+3)) (.az (.var 0) "make" [.aE (.str "app"),.aA [.sub (.var 2) (.var 4)],.c5 "INT",.var 1]) J P h:=by
 exact ab e (fu R G.B.bn G.B.self rfl gh (av (aS (av (dC (av (eT (aB c (aB f (jO R o (Z (ia _ _) H) (ax ⟨(by decide:1<=aN),av (ab (a:=V.int 1) (show G1 "INT"=_ from by kernel_rfl) (av (aB E (ax (wb R G (op:=.str "app") (a:=.aA [.int x]) (s:=.int 1) (d:=.int 0) (key:=⟨"app",[x],1,.int 0⟩) rfl N l L g j m q)))))⟩)))))))))))
noncomputable def Ic(k:Nat):Bool:=LA 30 k&&LA k 40
theorem ek.fr{fa fr ops a s d:List V}(G:ek A k nm fa fr ops a s d es)(f:Fr Ic A A'):ek A' k nm fa fr ops a s d es:=by
 obtain⟨B,b,c,g,h,i,j⟩:=G;have o:∀k,Ic k=true->A'.o k 0=A.o k 0:=λk e=>(f k 0 e).1;have S:∀k,Ic k=true->A'.st k 0=A.st k 0:=λk e=>(f k 0 e).2.1;have r:∀k,Ic k=true->A'.R k 0=A.R k 0:=λk e=>cJ f e;exact⟨⟨(S 31 rfl).trans B.bn,(o 31 rfl).trans B.self,by refine Z (r 32 rfl) ?_;exact B.f2,by refine Z (r 33 rfl) ?_;exact B.f3,by refine Z (r 34 rfl) ?_;exact B.f4,by refine Z (r 35 rfl) ?_;exact B.f5,by refine Z (r 36 rfl) ?_;exact B.f6,(o 32 rfl).trans B.o2,(o 33 rfl).trans B.o3,(o 34 rfl).trans B.o4,(o 35 rfl).trans B.o5,(o 36 rfl).trans B.o6,B.l2,B.l3,B.l4,B.l5,B.l6⟩,
  (S 37 rfl).trans b,(S 38 rfl).trans c,(S 39 rfl).trans g,(o 37 rfl).trans h,(o 38 rfl).trans i,(o 39 rfl).trans j⟩
theorem EQ{J:aV}{P:PS}{nm fa fr ops a s d:List V}{es:List (bQ×V)}{g:Int->Option V}{i:Nat}{x:Int}{xs:List V}(H:J.length=7)(p:(J[0]?).join=U Bk)(t:(J[1]?).join=U (.int 0))(E:(J[2]?).join=U (.ref (A.R 43 0)))(u:(J[3]?).join=U (.ref (A.R 41 0)))(j:(J[4]?).join=U (.int i))(R:AR h A)(G:ek A k nm fa fr ops a s d es)(o:A.o 43 0=U (.list xs))(I:A.o 41 0=U (.dI ar g))(X:xs[i]? =U (.int x))(L:xs.length<50)
  (N:bc es ⟨"app",[x],1,.int 0⟩=KF)(w:ops.length<100)(y:a.length<100)(z:s.length<100)(B:d.length<100)(C:es.length<100)(D:aj (ops.length:Int))
  (q:∀h' A',AR h' A'->ek A' k nm fa fr (ops++[.str "app"]) (a++[.aA [.int x]]) (s++[.int 1]) (d++[.int 0]) (bA es ⟨"app",[x],1,.int 0⟩ (.int ops.length))->A'.o 43 0=U (.list (xs++[.int ops.length]))->A'.o 41 0=U (.dI ar (fd g ops.length (U (.int x))))->Fr F' A A'->A'.nn=A.nn->A'.R 43 0=A.R 43 0->A'.R 41 0=A.R 41 0->P .next (J.set 5 (U (.int ops.length))) h'):
  St.bh G1 (lw (n+3)) [.a8 (.var 5) (.az (.var 0) "make" [.aE (.str "app"),.aA [.sub (.var 2) (.var 4)],.c5 "INT",.var 1]),.a8 (.sub (.var 3) (.var 5)) (.sub (.var 2) (.var 4)),.expr (.az (.var 2) "append" [.var 5])] J P h:=by
 refine aY (I7 H p t E j R G o X N w y z B C λT b l e f F=>⟨by refine Z H ?_;decide,?_⟩);have c:=(f 43 0 rfl).1.trans o;have S:∀v,((J.set 5 v)[2]?).join=U (.ref (b.R 43 0)):=λv=>Z (d5 (by decide)) (Z (cJ f rfl) E);have K:∀v,((J.set 5 v)[3]?).join=U (.ref (b.R 41 0)):=λv=>Z (d5 (by decide)) (Z (cJ f rfl) u);have M:∀v,((J.set 5 v)[4]?).join=U (.int i):=λv=>Z (d5 (by decide)) j;have m:∀v,((J.set 5 (U v))[5]?).join=U v:=λv=>by refine Z (g7 (by refine Z H ?_;decide)) ?_;rfl
 exact aY (eT (aB (S _) (aB (M _) (jO l c (Z (ia _ _) X) (gE (aB (K _) (aB (m _) (cD l ((f 41 0 rfl).1.trans I) (aR D) λW r=>ab (S _) (ab (aq (A:=b.set 41 0 _) r c) ⟨rfl,ab (m _) ⟨aq (A:=b.set 41 0 _) r c,bH (A:=b.set 41 0 _) r c (Ml L (by decide)) λh3 Q=>q _ _ Q (e.fr (.trans (.set rfl) (.set rfl))) rfl rfl ((f.bU Dz).trans (.trans (.set rfl) (.set rfl))) F (cJ f rfl:b.R 43 0=_) (cJ f rfl:b.R 41 0=_)⟩⟩)))))))))
theorem Ha(R:AR h A)(G:ek A k [] [] [] BZ [.aA [],.aA [],.aA []] [.int 0,.int 0,.int 0] [.int 0,.int 0,.int 0] Ih)
  (q:∀h' A' nm fa fr,AR h' A'->ek A' k nm fa fr (hS 0) (eM []) yn (dV 0) DV->A'.o 41 0=U (.dI ar λt=>(ai.M.arg t).map V.int)->A'.st 41 0=A.nn+1->Fr F' A A'->A'.nn=A.nn+2->Q (.aA [.fl (ae ar),.ref (A'.R 41 0)]) h'):lw (n+4) "_law_terms" [Bk] Q h:=by
 refine ab tS ⟨rfl,aY (fu R G.B.bn G.B.self rfl ((by kernel_rfl:G1 ("Bank"++"."++"declare_fun")=U .none)) (av (aS (av (dC ⟨by decide,vZ R G (name:=.str "f") (as:=[.int 1]) (r:=.int 1) (by decide) (by decide) (by decide) λh1 A1 C j F D=>⟨aX rfl,aY (Jo (n:=n) rfl rfl C j λh2 A2 nm fa fr o l E H=>⟨aX rfl,?_⟩)⟩⟩)))))⟩;refine aY (eg (aB rfl (fu o l.B.bn l.B.self rfl gh (av (aS (av (dC (ax ⟨K3 _,⟨by decide,wb o l (op:=.str "num") (a:=.aA []) (s:=.int 1) (d:=.aA [.int 0,.int 1]) (key:=⟨"num",[],1,.gH [0,1]⟩) rfl rfl (by decide) (by decide) (by decide) (by decide) (by decide) λh3 A3 p m I J=>fu p m.B.bn m.B.self rfl gh (av (aS (av (dC (ax ⟨K3 _,⟨by decide,?_⟩⟩)))))⟩⟩))))))));refine wb p m (op:=.str "num") (a:=.aA []) (s:=.int 1) (d:=.aA [.int 1,.int 1]) (key:=⟨"num",[],1,.gH [1,1]⟩) rfl rfl (by decide) (by decide) (by decide) (by decide) (by decide) λh4 f K L M P=>ax (bz (by decide) ⟨by decide,by decide,gy 43 0 (xs:=ae [3,4,5,6,7,8]) K (by decide) λh5 S=>⟨aX rfl,aY (d0 (mR 41 0 ar S (aX rfl) λh6 T=>⟨aX rfl,⟨by decide,by decide,ab (a:=It.bp [.int 0,.int 1,.int 2]) rfl ⟨4,⟨aX rfl,EQ (n:=n) (i:=0) (x:=3) rfl rfl rfl rfl rfl rfl T (L.fr (.trans (.new rfl) (.new rfl))) rfl rfl rfl (by decide) rfl (by decide) (by decide) (by decide) (by decide) (by decide) (by decide) λh7 u X G7 o7 i7 F7 n7 r7 t7=>⟨aX rfl,?_⟩⟩⟩⟩⟩))⟩⟩);have v:U (V.ref (((f.new 43 0 f.nn (.list (ae [3,4,5,6,7,8]))).new 41 0 (f.nn+1) (.dI ar λ_=>KF)).R 43 0))=U (V.ref (u.R 43 0)):=congrArg (λr=>U (V.ref r)) r7.symm;have w:U (V.ref (((f.new 43 0 f.nn (.list (ae [3,4,5,6,7,8]))).new 41 0 (f.nn+1) (.dI ar λ_=>KF)).R 41 0))=U (V.ref (u.R 41 0)):=congrArg (λr=>U (V.ref r)) t7.symm;refine EQ (n:=n) (i:=1) (x:=4) rfl rfl rfl v w rfl X G7 o7 i7 rfl (by decide) rfl (by decide) (by decide) (by decide) (by decide) (by decide) (by decide) λh8 A8 R8 G8 o8 i8 F8 n8 r8 t8=>⟨aX rfl,?_⟩;have y:=v.trans (congrArg (λr=>U (V.ref r)) r8.symm);have z:=w.trans (congrArg (λr=>U (V.ref r)) t8.symm);refine EQ (n:=n) (i:=2) (x:=5) rfl rfl rfl y z rfl R8 G8 o8 i8 rfl (by decide) rfl (by decide) (by decide) (by decide) (by decide) (by decide) (by decide) λh9 g B G9 o9 i9 F9 n9 r9 t9=>?_;have w2:=y.trans (congrArg (λr=>U (V.ref r)) r9.symm);have W:=z.trans (congrArg (λr=>U (V.ref r)) t9.symm);refine rt (dC (a2 w2 W ⟨(by decide:2<=aN),⟨_,_,.fst (B.io o9) (λe=>?_),?_⟩⟩));·exact absurd (congrArg cq.k (V.ref.inj e)) (by refine(?_ :¬(41:Nat)=43);decide)
 ·have ei:fd (fd (fd (λ_=>KF) 9 (U (V.int 3))) 10 (U (.int 4))) 11 (U (.int 5))=λt=>(ai.M.arg t).map V.int:=by
   funext t;refine(?_ :(if t=11 then _ else if t=10 then _ else if t=9 then _ else _)=(if t=9 then U 3 else if t=10 then U 4 else if t=11 then U 5 else KF:Option Int).map V.int);by_cases a:t=9;·subst a;rfl
   ·by_cases b:t=10
    ·clear a;subst b;rfl
    ·by_cases c:t=11
     ·clear b a;subst c;rfl
     ·refine Z (if_neg c) (Z (if_neg b) (Z (if_neg a) (Z (if_neg a) (Z (if_neg b) (Z (if_neg c) ?_)))));rfl
  have N:f.nn=A.nn:=P.trans (J.trans (H.trans D));refine q _ (mB g 43 0) _ _ _ (drop B 43 0) (G9.fr (Fr.mB rfl)) ((ei).symm▸(i9):g.o 41 0=U (.dI ar λt=>(ai.M.arg t).map V.int)) ((hR N ((congrArg cq.n (V.ref.inj (KC W))).symm)):g.st 41 0=A.nn+1) (((((F.trans E).trans (I.trans M)).bU Dz:Fr F' A f).trans (.trans (.new rfl) (.new rfl))).trans (((F7.trans F8).trans F9).trans (Fr.mB rfl:Fr F' g (mB g 43 0)))) ?_
  ·refine(?_ :g.nn=A.nn+2)
   simp only[n9,n8,n7,<-N];rfl
end
noncomputable def oO(D:List Int)(g:Int->Option V)(t:Int):Option V:=if t∈D then g t else KF
structure aG(A:AH)(D:Nat->List Int)(M:Hs):Prop where
 cl:M.aU=KF
 sn:A.st 30 0=sN
 bn:A.st 31 0=bN
 self:A.o 30 0=U (.dS (bC A M))
 Y:A.o 1 0=U (.dI ar (oO (D 1) (hX M.Y)))
 mem:A.o 2 0=U (.dI ar (oO (D 2) (jC A 21)))
 aM:A.o 3 0=U (.dI ar (oO (D 3) (jC A 22)))
 val:A.o 4 0=U (.dI ar (oO (D 4) (hX M.val)))
 bl:A.o 5 0=U (.dI ar (oO (D 5) (jC A 23)))
 bK:A.o 6 0=U (.dI ar (oO (D 6) (jC A 24)))
 up:A.o 7 0=U (.dI ar λt=>(M.up t).map g0)
 bu:A.o 8 0=U (.dP iE λt=>(M.bu t).map V.int)
 aC:A.o 9 0=U (.dI fC λt=>(M.aC t).map b')
 a7:A.o 10 0=U (.dI fC λt=>(M.a7 t).map fb)
 a4:A.o 11 0=U (.list (ae M.a4))
 aw:A.o 12 0=U (.list (M.aw.map lr))
 ak:A.o 13 0=U (.list (M.ak.map e2.v))
 am:A.o 14 0=U (.list (M.am.map λ(n:Nat)=>V.int n))
 ft:∀t∈D 2,A.o 21 t=U (.list (ae (M.mem t)))
 c8:∀t∈D 3,A.o 22 t=U (.list (ae (M.aM t)))
 ec:∀t∈D 5,A.o 23 t=U (.list (Nw ij (M.bl t)))
 fT:∀t∈D 6,A.o 24 t=U (.list (ae (M.bK t)))
 fy:A.o 31 0=U (.dS (dr A))
 ops:A.o 32 0=U (.list (hS M.cd.length))
 args:A.o 33 0=U (.list (eM M.cd))
 bF:A.o 35 0=U (.list (dV M.cd.length))
theorem pA{g:Int->Option V}(h:∀t,¬aj t->g t=KF):oO ar g=g:=by
 funext t;refine(?_ :(if t∈ar then g t else KF)=g t);by_cases c:t∈ar;·exact Z (if_pos c) rfl
 ·exact Z (if_neg c) (Z (h t λn=>c (aR n)) rfl)
theorem aG.r6(P:aG A (λ_=>ar) M):ah A M:=by have a:∀f,oO ar (hX f)=hX f:=λf=>pA λt n=>if_neg n;have E:∀k,oO ar (jC A k)=jC A k:=λk=>pA λt n=>if_neg n;exact⟨λl e=>by replace e:=P.cl▸e;(exact al e),P.sn,P.bn,P.self,by(exact Z P.Y (Z (a _) rfl)),by(exact Z P.mem (Z (E _) rfl)),by(exact Z P.aM (Z (E _) rfl)),by(exact Z P.val (Z (a _) rfl)),by(exact Z P.bl (Z (E _) rfl)),by(exact Z P.bK (Z (E _) rfl)),P.up,P.bu,P.aC,P.a7,P.a4,P.aw,P.ak,P.am,λt n=>P.ft t (aR n),λt n=>P.c8 t (aR n),λt n=>P.ec t (aR n),λt n=>P.fT t (aR n),P.fy,P.ops,P.args,P.bF⟩
noncomputable def M0:Hs:=⟨λt=>t,λ_=>[],λ_=>[],λ_=>0,λ_=>[],λ_=>[],λ_=>KF,λ_=>KF,λ_=>KF,λ_=>KF,[],[],KF,0,[],[],[]⟩
section
variable {k:Nat} {fs:List (String×V)}
theorem F3{P:Hp->Prop}(R:AR h A)(b:A.st 30 0=sN)(o:A.o 30 0=U (.dS fs))(l:fs.length<900)(q:∀h',AR h' (A.set 30 0 (.dS (bA fs f v)))->P h'):bB (ai.bC h ⟨30,0,sN⟩) (BE ⟨30,0,sN⟩ f v P h):=by have:=gm R o l rfl q;rwa[show A.R 30 0=⟨30,0,sN⟩ from congrArg (cq.mk 30 0) b] at this
structure pG(A0 A:AH)(fs:List (String×V))(L:List (String×Nat×AO))(c:Nat):Prop where
 sn:A.st 30 0=sN
 o:A.o 30 0=U (.dS fs)
 m:∀e∈L,bc fs e.1=U (.ref (A.R e.2.1 0))/\A.o e.2.1 0=U e.2.2
 f:∀k t,30<k->A.o k t=A0.o k t/\A.st k t=A0.st k t
 l:fs.length<=c
theorem pG.set{L:List (String×Nat×AO)}{c:Nat}(I:pG A0 A fs L c){f:String}(h:∀e∈L,e.1≠f)(H:∀e∈L,e.2.1≠30):pG A0 (A.set 30 0 (.dS (bA fs f v))) (bA fs f v) L (c+1):=by
 refine⟨I.sn,nQ,λe m=>⟨?_,(if_neg λq=>H e m q.1).trans (I.m e m).2⟩,λk t l=>⟨(if_neg λq=>absurd (bM (kT _) 0x1303131131e471371e4 rfl l (KQ q.1)) (Ll 0)).trans (I.f k t l).1,(I.f k t l).2⟩,KB (iY _ _ _) (Ld I.l)⟩
 (rw[ez];refine Z (if_neg (h e m)) ?_);exact(I.m e m).1
theorem pG.new{L:List (String×Nat×AO)}{c:Nat}(I:pG A0 A fs L c){f:String}{k:Nat}{x:AO}{n:Nat}(F:∀e∈L,e.1≠f)(h:∀e∈L,e.2.1≠30/\e.2.1≠k)(K:k<30):pG A0 ((A.new k 0 n x).set 30 0 (.dS (bA fs f (.ref ⟨k,0,n⟩)))) (bA fs f (.ref ⟨k,0,n⟩)) (L++[(f,k,x)]) (c+1):=by
 refine⟨(if_neg (λq=>absurd (bM (kT _) 0x13031311371e4131e47 rfl K (KQ q.1)) (Ll 0))).trans I.sn,nQ,λe m=>?_,λj t l=>⟨((Z (if_neg λq=>absurd (bM (kT _) 0x1303131131e471371e4 rfl l (KQ q.1)) (Ll 0)) (Z (if_neg λq=>absurd (bM (gF _ _) 0x13031311371e4131131e481387 rfl K l (KQ q.1)) (Ll 0)) ((I.f j t l).1))):(if j=30/\t=0 then _ else(if j=k/\t=0 then U x else A.o j t))=_),((Z (if_neg λq=>absurd (bM (gF _ _) 0x13031311371e4131131e481387 rfl K l (KQ q.1)) (Ll 0)) ((I.f j t l).2)):(if j=k/\t=0 then n else A.st j t)=_)⟩,KB (iY _ _ _) (Ld I.l)⟩
 ·rcases KW.mp m with m |m
  ·have H:¬(e.2.1=k/\(0:Int)=0):=λq=>(h e m).2 q.1
   refine⟨?_,((if_neg (λq=>(h e m).1 q.1:¬(e.2.1=30/\(0:Int)=0))).trans (if_neg H)).trans (I.m e m).2⟩
   (rw[ez];refine Z (if_neg (F e m)) (Z ((I.m e m).1) ?_))
   exact((Z (if_neg H) rfl):U (V.ref ⟨e.2.1,0,A.st e.2.1 0⟩)=U (V.ref ⟨e.2.1,0,if e.2.1=k/\(0:Int)=0 then n else A.st e.2.1 0⟩))
  ·cases KG.mp m
   refine⟨?_,((Z (if_neg λq=>absurd (bM (kT _) 0x13031311371e4131e47 rfl K (KQ q.1.symm)) (Ll 0)) (Z (if_pos ⟨rfl,rfl⟩) rfl)):(if k=30/\(0:Int)=0 then _ else(if k=k/\(0:Int)=0 then U x else A.o k 0))=U x)⟩
   ·(rw[ez];refine Z (if_pos rfl) ?_)
    show U (V.ref ⟨k,0,n⟩)=U (V.ref ⟨k,0,if k=k/\(0:Int)=0 then n else A.st k 0⟩);exact Z (if_pos ⟨rfl,rfl⟩) rfl
noncomputable def Dw(f:String)(k:Nat):List (String×Nat×AO)->Bool
 |[]=>LA k 30
 |e::L=>!decide (e.1=f)&&(!Lk e.2.1 30&&(!Lk e.2.1 k&&Dw f k L))
theorem rq:∀{L:List (String×Nat×AO)},Dw f k L=true->k<30/\∀e∈L,e.1≠f/\e.2.1≠30/\e.2.1≠k
 |[],h=>⟨Md h,λ_ m=>nomatch m⟩
 |e::L,h=>by
  have h:(!decide (e.1=f)&&(!Lk e.2.1 30&&(!Lk e.2.1 k&&Dw f k L)))=true:=h;induction c:decide (e.1=f) with
  |true=>replace h:=c▸h;exact aK h
  |false=>
   induction C:Lk e.2.1 30 with
   |true=>rw[c,C] at h;exact aK h
   |false=>
    induction d:Lk e.2.1 k with
    |true=>rw[c,C,d] at h;exact aK h
    |false=>
     rw[c,C,d] at h;obtain⟨a,b⟩:=rq h;refine⟨a,λx m=>?_⟩;rcases KM.mp m with rfl |m
     ·exact⟨of_decide_eq_false c,OE C,OE d⟩
     ·exact b x m
theorem fX{c:Nat}(r:AR h (A.new k 0 A.nn x))(I:pG A0 A fs L c)(H:Dw f k L=true)(l:LA c 900=true){P:Hp->Prop}(q:∀h' A' v,AR h' A'->pG A0 A' (bA fs f v) (L++[(f,k,x)]) (c+1)->P h'):
  bB (ai.bC h ⟨30,0,sN⟩) (BE ⟨30,0,sN⟩ f (.ref ⟨k,0,A.nn⟩) P h):=by
 refine ay (rq H) λK H=>?_;have n:¬(30=k/\(0:Int)=0):=λq=>absurd q.1 (NM K);exact F3 r ((if_neg n).trans I.sn) ((if_neg n).trans I.o) (KU I.l (Md l)) λa R=>q _ _ _ R (I.new (λe m=>(H e m).1) (λe m=>(H e m).2) K)
theorem fI{P:PS}(k:Nat)(u:List Int)(e:(J[0]?).join=U Me)(R:AR h A){c:Nat}(I:pG A0 A fs L c)(H:Dw f k L=true)(a:LA u.length 900=true)(l:LA c 900=true)
  (q:∀h' A' v,AR h' A'->pG A0 A' (bA fs f v) (L++[(f,k,.dI u λ_=>KF)]) (c+1)->St.bh G1 C r J P h'):St.bh G1 C (.a8 (.ao (.var 0) f) (.dict [] [])::r) J P h:=
 aY (d0 (mR k 0 u R (Md a) λd b=>ab e (fX b I H l q)))
theorem fP{P:PS}(k:Nat)(u:List (List Int))(e:(J[0]?).join=U Me)(R:AR h A){c:Nat}(I:pG A0 A fs L c)(H:Dw f k L=true)(a:LA u.length 900=true)(l:LA c 900=true)
  (q:∀h' A' v,AR h' A'->pG A0 A' (bA fs f v) (L++[(f,k,.dP u λ_=>KF)]) (c+1)->St.bh G1 C r J P h'):St.bh G1 C (.a8 (.ao (.var 0) f) (.dict [] [])::r) J P h:=
 aY (d0 (wn k 0 u R (Md a) λd b=>ab e (fX b I H l q)))
theorem fL{P:PS}(k:Nat)(e:(J[0]?).join=U Me)(R:AR h A){c:Nat}(I:pG A0 A fs L c)(H:Dw f k L=true)(l:LA c 900=true)
  (q:∀h' A' v,AR h' A'->pG A0 A' (bA fs f v) (L++[(f,k,.list [])]) (c+1)->St.bh G1 C r J P h'):St.bh G1 C (.a8 (.ao (.var 0) f) (.list [])::r) J P h:=
 aY (gy k 0 (xs:=[]) R (K3 _) λb a=>ab e (fX a I H l q))
theorem fV{P:PS}(E:(J[0]?).join=U Me)(R:AR h A){c:Nat}(I:pG A0 A fs L c)(H:Dw f 0 L=true)(l:LA c 900=true)
  (q:∀h' A',AR h' A'->pG A0 A' (bA fs f v) L (c+1)->St.bh G1 C r J P h'):St.bh G1 C (.a8 (.ao (.var 0) f) (.aE v)::r) J P h:=
 aY (aS (ab E (F3 R I.sn I.o (KU I.l (Md l)) λb a=>q _ _ a (I.set (λe m=>((rq H).2 e m).1) λe m=>((rq H).2 e m).2.1))))
noncomputable def Hw(f g h i j k l m v a b c d e:V):List (String×V):=bA (bA (bA (bA (bA (bA (bA (bA (bA (bA (bA (bA (bA (bA (bA (bA (bA [] "bank" Bk) "root" f) "members" g) "uses" h) "value" i) "apart" j) "watchers" k) "up" l) "table" m) "sides" v) "told" a) "news" b) "queue" c) "clash" .none) "clash_level" (.int 0)) "trail" d) "marks" e
noncomputable def Ji:List (String×Nat×AO):=[("root",1,.dI ar λ_=>KF),("members",2,.dI ar λ_=>KF),("uses",3,.dI ar λ_=>KF),("value",4,.dI ar λ_=>KF),("apart",5,.dI ar λ_=>KF),("watchers",6,.dI ar λ_=>KF),("up",7,.dI ar λ_=>KF),("table",8,.dP iE λ_=>KF),("sides",9,.dI fC λ_=>KF),("told",10,.dI fC λ_=>KF),("news",11,.list []),("queue",12,.list []),("trail",13,.list []),("marks",14,.list [])]
theorem pG.at{L:List (String×Nat×AO)}{c i:Nat}{x:String}{k:Nat}{a:AO}{v:V}(I:pG A0 A fs L c)(e:L[i]? =U (x,k,a))(E:bc fs x=U v):v=.ref (A.R k 0)/\A.o k 0=U a:=by have g:=I.m _ (Nf e);exact⟨KC (E.symm.trans g.1),g.2⟩
theorem uw{c:Nat}{C h:V}(I:pG A0 A (Hw u w x y z B C D a b d e h j) Ji c)(Q:A0.st 31 0=bN)(R:A0.o 31 0=U (.dS (dr A0)))(S:A0.o 32 0=U (.list (hS 0)))(T:A0.o 33 0=U (.list (eM [])))(W:A0.o 35 0=U (.list (dV 0))):aG A (λ_=>[]) M0:=by
 have E:=I.at (i:=0) (v:=u) rfl (by kernel_rfl);have F:=I.at (i:=1) (v:=w) rfl (by kernel_rfl);have H:=I.at (i:=2) (v:=x) rfl (by kernel_rfl);have J:=I.at (i:=3) (v:=y) rfl (by kernel_rfl);have K:=I.at (i:=4) (v:=z) rfl (by kernel_rfl);have L:=I.at (i:=5) (v:=B) rfl (by kernel_rfl);have M:=I.at (i:=6) (v:=C) rfl (by kernel_rfl);have N:=I.at (i:=7) (v:=D) rfl (by kernel_rfl);have P:=I.at (i:=8) (v:=a) rfl (by kernel_rfl);have G:=I.at (i:=9) (v:=b) rfl (by kernel_rfl);have n:=I.at (i:=10) (v:=d) rfl (by kernel_rfl);have p:=I.at (i:=11) (v:=e) rfl (by kernel_rfl);have q:=I.at (i:=12) (v:=h) rfl (by kernel_rfl);have s:=I.at (i:=13) (v:=j) rfl (by kernel_rfl);have es:=I.o;simp only[E.1,F.1,H.1,J.1,K.1,L.1,M.1,N.1,P.1,G.1,n.1,p.1,q.1,s.1] at es;have o:∀g,oO [] g=λ_=>KF:=λg=>funext λt=>if_neg MH;have f:=I.f;have r:∀k,30<k->A.R k 0=A0.R k 0:=λk l=>congrArg (cq.mk k 0) (f k 0 l).2;have X:dr A=dr A0:=by unfold dr;simp only[r 37 (by decide),r 38 (by decide),r 39 (by decide),r 32 (by decide),r 33 (by decide),r 34 (by decide),r 35 (by decide),r 36 (by decide)]
 refine⟨rfl,I.sn,(f 31 0 (by decide)).2.trans Q,es.trans (by kernel_rfl),by refine Z (o _) ?_;exact E.2,by refine Z (o _) ?_;exact F.2,by refine Z (o _) ?_;exact H.2,by refine Z (o _) ?_;exact J.2,by refine Z (o _) ?_;exact K.2,by refine Z (o _) ?_;exact L.2,M.2,N.2,P.2,G.2,n.2,p.2,q.2,s.2,λ_ m=>(nomatch m),λ_ m=>(nomatch m),λ_ m=>(nomatch m),λ_ m=>(nomatch m),?_,(f 32 0 (by decide)).1.trans S,(f 33 0 (by decide)).1.trans T,(f 35 0 (by decide)).1.trans W⟩;refine Z X ?_;exact(f 31 0 (by decide)).1.trans R
set_option maxHeartbeats 4000000 in
theorem yf(R:AR h A)(S:A.st 30 0=sN)(o:A.o 30 0=U (.dS []))(B:A.st 31 0=bN)(x:A.o 31 0=U (.dS (dr A)))(y:A.o 32 0=U (.list (hS 0)))(z:A.o 33 0=U (.list (eM [])))(C:A.o 35 0=U (.list (dV 0)))
  (q:∀h' A',AR h' A'->aG A' (λ_=>[]) M0->(∀k t,30<k->A'.o k t=A.o k t/\A'.st k t=A.st k t)->Q .none h'):cw (n+1) "__init__" [Me,Bk] Q h:=by
 refine ab ((by kernel_rfl:T1 ("Congruence"++"."++"__init__")=U gN)) ⟨rfl,aY (aB rfl (F3 R S o (aX rfl) λh1 D=>fI 1 ar rfl D (⟨S,nQ,λ_ m=>(nomatch m),λk t l=>⟨if_neg λq=>absurd q.1 (NM l),rfl⟩,KX _⟩:pG A (A.set 30 0 (.dS (bA [] "bank" Bk))) (bA [] "bank" Bk) [] 1) rfl rfl rfl λh2 A2 v2 E F=>fI 2 ar rfl E F rfl rfl rfl λh3 A3 v3 G H=>fI 3 ar rfl G H rfl rfl rfl λh4 A4 v4 J K=>fI 4 ar rfl J K rfl rfl rfl λh5 A5 v5 L M=>fI 5 ar rfl L M rfl rfl rfl λh6 A6 v6 N P=>fI 6 ar rfl N P rfl rfl rfl λh7 A7 v7 T V=>?_))⟩
 refine fI 7 ar rfl T V rfl rfl rfl λh8 A8 v8 W X=>fP 8 iE rfl W X rfl rfl rfl λh9 A9 v9 Z I9=>fI 9 fC rfl Z I9 rfl rfl rfl λaa ac af r I=>fI 10 fC rfl r I rfl rfl rfl λag an ap a b=>fL 11 rfl a b rfl rfl λas a1 a2 c d=>fL 12 rfl c d rfl rfl λa3 bd bi e f=>fV rfl e f rfl rfl λbk bn g j=>fV rfl g j rfl rfl λbs bw p s=>?_
 exact fL 13 rfl p s rfl rfl λbD bL b1 u v=>fL 14 rfl u v rfl rfl λb2 b3 b4 w i=>q _ _ w (uw i B x y z C) i.f
end
structure B4(A:AH)(e:List (Int×Int)):Prop where
 bn:A.st 31 0=bN
 fy:A.o 31 0=U (.dS (dr A))
 ops:A.o 32 0=U (.list (hS e.length))
 args:A.o 33 0=U (.list (eM e))
 bF:A.o 35 0=U (.list (dV e.length))
noncomputable def aG.b4{A:AH}{D:Nat->List Int}{M:Hs}(H:aG A D M):B4 A M.cd:=⟨H.bn,H.fy,H.ops,H.args,H.bF⟩
section
variable {D:Nat->List Int} {Ui:List (Int×Int)} {fs:List (String×V)}
theorem hK{v:V}{P:V->Prop}(R:AR h A)(s:A.st 30 0=sN)(o:A.o 30 0=U (.dS fs))(e:bc fs f=U v)(q:P v):bB (ai.bC h ⟨30,0,sN⟩) (r7 f P):=by have:=yV R o e q;rwa[show A.R 30 0=⟨30,0,sN⟩ from congrArg (cq.mk 30 0) s] at this
theorem lL{P:Prop}(R:AR h A)(s:A.st 30 0=sN)(o:A.o 30 0=U (.dS fs))(e:bc fs m=KF)(g:G1 ("Congruence"++"."++m)=U .none)(q:P):(bB (ai.bC h ⟨30,0,sN⟩) (Gb m))/\bB (G1 ("Congruence"++"."++m)) (sP P):=by refine⟨?_,ab g q⟩;have:=R.dS o;rw[show A.R 30 0=⟨30,0,sN⟩ from congrArg (cq.mk 30 0) s] at this;exact ab (fZ this) e
theorem DG(R:AR h A)(B:B4 A Ui)(H:aj t)(q:Q (.str (v7 t)) h):bw (n+1) "op" [Bk,.int t] Q h:=by
 have e:jt (hS Ui.length) t=U (.str (v7 t)):=by clear q;rcases c3 H with rfl |rfl |rfl |rfl |rfl |rfl |rfl |rfl |rfl<;>rfl
 exact ab vO ⟨rfl,jW R B.bn B.fy rfl (jO R B.ops e ⟨_,_,.refl,q⟩)⟩
theorem wf(R:AR h A)(B:B4 A Ui)(H:aj t)(q:Q (.aA (ae (lc t))) h):bw (n+1) "args" [Bk,.int t] Q h:=by
 have e:jt (eM Ui) t=U (.aA (ae (lc t))):=by clear q;rcases c3 H with rfl |rfl |rfl |rfl |rfl |rfl |rfl |rfl |rfl<;>rfl
 exact ab nN ⟨rfl,jW R B.bn B.fy rfl (jO R B.args e ⟨_,_,.refl,q⟩)⟩
theorem Cf(R:AR h A)(B:B4 A Ui)(H:aj t)(q:Q (t5 t) h):bw (n+1) "data" [Bk,.int t] Q h:=by
 have e:jt (dV Ui.length) t=U (t5 t):=by clear q;rcases c3 H with rfl |rfl |rfl |rfl |rfl |rfl |rfl |rfl |rfl<;>rfl
 exact ab sT ⟨rfl,jW R B.bn B.fy rfl (jO R B.bF e ⟨_,_,.refl,q⟩)⟩
theorem uu(R:AR h A)(s:A.st 30 0=sN)(self:A.o 30 0=U (.dS (bC A M)))(B:B4 A Ui)(H:aj t)(q:Q (.aA (ae (lc t))) h):cw (n+2) "inner" [Me,.int t] Q h:=by
 refine ab pF ⟨rfl,hK R s self rfl (fu R B.bn B.fy rfl q' (DG R B H (aS ?_)))⟩;induction c:fM t with
 |true=>
  have e:gI h .eq (.str (v7 t)) (.str "app")=U false:=by unfold v7;refine Z c ?_;rfl
  refine ab e ⟨by decide,_,_,.refl,?_⟩;have:lc t=[]:=by unfold fM at c;clear e;rcases c3 H with rfl |rfl |rfl |rfl |rfl |rfl |rfl |rfl |rfl<;>first |rfl |(exact absurd c (by decide))
  replace q:=this▸q;exact q
 |false=>
  have e:gI h .eq (.str (v7 t)) (.str "app")=U true:=by unfold v7;refine Z c ?_;rfl
  exact ab e (hK R s self rfl (fu R B.bn B.fy rfl gi (wf R B H ⟨_,_,.refl,q⟩)))
theorem I5{D:List Int}{f:Int->Int}{x:Int}(h:x∈D)(H:aj x):oO D (hX f) x=U (.int (f x)):=(if_pos h).trans (if_pos H)
theorem GZ(R:AR h A)(H:aG A D M){u:Int}(e:ai.M.arg t=U u)(b:u∈D 1)(q:Q (.aA (ae (eP M u))) h):cw (n+2) "signature" [Me,.int t] Q h:=by refine ay (aZ e) λT N=>ab jw ⟨rfl,hK R H.sn H.self rfl (fu R H.bn H.fy rfl sq (Cf R H.b4 T (Z (t8 e) ⟨by decide,hK R H.sn H.self rfl (fu R H.bn H.fy rfl gi (wf R H.b4 T (Z (i1 e) (ab (a:=.bp [.int u]) rfl ⟨2,hK R H.sn H.self rfl (cK R H.Y (I5 b N) ⟨by decide,hA (bz (by refine(?_ :1<=aN);decide) (ax (wL (by refine(?_ :1<=aN);decide) ?_)))⟩)⟩))))⟩)))⟩;exact⟨(λq=>nomatch q),(λq=>nomatch q),(by decide:2<=aN),_,_,.refl,q⟩
theorem aG.c7(H:aG A D M){xs:List V}{l:List e2}(e:xs=l.map e2.v):aG (A.set 13 0 (.list xs)) D (M.bR l):=
 {H with ak:=(by refine Z e ?_;rfl)}
theorem aG.kX(H:aG A D M){g:List Int->Option V}{f:List Int->Option Int}(e:g=λt=>(f t).map V.int):aG (A.set 8 0 (.dP iE g)) D (M.hu f):=
 {H with bu:=(by refine Z e ?_;rfl)}
theorem aG.q2(H:aG A D M){t:Int}{xs:List V}{l:List Int}(e:xs=ae l):aG (A.set 22 t (.list xs)) D (M.gX t l):=by
 refine{H with c8:=λT m=>?_};show(if 22=22/\T=t then U (AO.list xs) else A.o 22 T)=U (.list (ae (aH M.aM t l T)));by_cases c:T=t;·subst c;(refine Z (if_pos ⟨rfl,rfl⟩) ?_;(rw[ai.M.aP];exact Z e rfl))
 ·exact Z (if_neg λq=>c q.2) (Z (ai.M.aI _ _ c) (H.c8 T m))
theorem Bd(R:AR h A)(H:aG A D M){u:Int}(e:ai.M.arg t=U u)(b:u∈D 1)(c:aj (M.Y u))(N:M.bu (eP M u)=KF)(lt:M.ak.length<aN)
  (q:∀h' A',AR h' A'->aG A' D ((M.bR (M.ak++[.g6 (eP M u)])).hu (aH M.bu (eP M u) (U t)))->(∀k t,24<k->A'.o k t=A.o k t/\A'.st k t=A.st k t)->Q .none h'):cw (n+3) "look_up" [Me,.int t] Q h:=by
 refine ab lS ⟨rfl,lL R H.sn H.self rfl g2 (a1 rfl (GZ R H e b ⟨aX rfl,hK R H.sn H.self rfl (ab (rx R H.bu) ⟨rfl,rx R H.bu,yO R H.bu (dA _) (Z N ⟨aX rfl,hK R H.sn H.self rfl (ab (aq R H.ak) ⟨rfl,(by decide:3<=aN),aq R H.ak,bH R H.ak (Z (KE _) lt) λf r=>?_⟩)⟩)⟩)⟩))⟩;have a:=H.c7 (l:=M.ak++[e2.g6 (eP M u)]) (db M.ak (e2.g6 (eP M u)));exact hK r a.sn a.self rfl (nU r a.bu (dA _) (rJ c) λg d=>q _ _ d (a.kX (eZ (U t))) (λk t l=>⟨(if_neg λq=>absurd (bM (kT _) 0x130313113184713783 rfl l (KQ q.1)) (Ll 0)).trans (if_neg λq=>absurd (bM (kT _) 0x1303131131847137d3 rfl l (KQ q.1)) (Ll 0)),rfl⟩))
end
section
variable {D:Nat->List Int} {Ui:List (Int×Int)}
theorem jo{D:List Int}{g g':Int->Option V}{v:V}(h:g' t=U v)(H:∀x,x≠t->g' x=g x):fd (oO D g) t (U v)=oO (D++[t]) g':=by
 funext x;refine(?_ :(if x=t then U v else if x∈D then g x else KF)=if x∈D++[t] then g' x else KF);by_cases c:x=t;·exact Z (if_pos c) (Z (if_pos (K1 _ (KG.mpr c))) (Z c (Z h rfl)))
 ·refine Z (if_neg c) (Z (H x c) ?_)
  by_cases d:x∈D;·exact Z (if_pos d) (Z (if_pos (KZ _ d)) rfl)
  ·exact Z (if_neg d) (Z (if_neg λm=>(KW.mp m).elim d λm=>c (KG.mp m)) rfl)
theorem v4{a:Type}{k:Nat}{t:Int}{D:List Int}{f:Int->List a}{g:List a->List V}{xs:List V}{l:List a}(h:∀t∈D,A.o k t=U (.list (g (f t))))(e:xs=g l):
  ∀T∈D++[t],(if k=k/\T=t then U (AO.list xs) else A.o k T)=U (.list (g (aH f t l T))):=λT m=>by
 by_cases c:T=t;·clear m;subst c;(refine Z (if_pos ⟨rfl,rfl⟩) ?_;(rw[ai.M.aP];exact Z e rfl))
 ·exact Z (if_neg λq=>c q.2) (Z (ai.M.aI _ _ c) (h T ((KW.mp m).resolve_right λm=>c (KG.mp m))))
theorem aG.Dd(H:aG A D M){t:Int}(n:aj t):aG (A.set 1 0 (.dI ar (fd (oO (D 1) (hX M.Y)) t (U (.int v))))) (aH D 1 (D 1++[t])) (M.kB (aH M.Y t v)):=
 ⟨H.cl,H.sn,H.bn,H.self,congrArg (λg=>U (AO.dI ar g)) (jo ((if_pos n).trans (congrArg (λx=>U (V.int x)) (ai.M.aP M.Y t v))) λx c=>by refine((Z (ai.M.aI _ _ c) ?_):(if aj x then U (V.int (aH M.Y t v x)) else none)=_);rfl),H.mem,H.aM,H.val,H.bl,H.bK,H.up,H.bu,H.aC,H.a7,H.a4,H.aw,H.ak,H.am,H.ft,H.c8,H.ec,H.fT,H.fy,H.ops,H.args,H.bF⟩
theorem aG.AN(H:aG A D M){t:Int}(n:aj t):aG (A.set 4 0 (.dI ar (fd (oO (D 4) (hX M.val)) t (U (.int v))))) (aH D 4 (D 4++[t])) (M.ua (aH M.val t v)):=
 ⟨H.cl,H.sn,H.bn,H.self,H.Y,H.mem,H.aM,congrArg (λg=>U (AO.dI ar g)) (jo ((if_pos n).trans (congrArg (λx=>U (V.int x)) (ai.M.aP M.val t v))) λx c=>by refine((Z (ai.M.aI _ _ c) ?_):(if aj x then U (V.int (aH M.val t v x)) else none)=_);rfl),H.bl,H.bK,H.up,H.bu,H.aC,H.a7,H.a4,H.aw,H.ak,H.am,H.ft,H.c8,H.ec,H.fT,H.fy,H.ops,H.args,H.bF⟩
theorem aG.FN(H:aG A D M){t:Int}{k:Nat}{xs:List V}{l:List (Int)}(n:aj t)(e:xs=ae l):aG ((A.new 21 t k (.list xs)).set 2 0 (.dI ar (fd (oO (D 2) (jC A 21)) t (U (.ref ⟨21,t,k⟩))))) (aH D 2 (D 2++[t])) (M.oe t l):=
 ⟨H.cl,H.sn,H.bn,H.self,H.Y,congrArg (λg=>U (AO.dI ar g)) (jo (g':=jC (A.new 21 t k (.list xs)) 21) ((if_pos n).trans (Z oy rfl)) λx c=>by refine((Z (if_neg (c:=21=21/\x=t) λq=>c q.2) ?_):(if aj x then U (V.ref ⟨21,x,if 21=21/\x=t then k else A.st 21 x⟩) else none)=_);rfl),H.aM,H.val,H.bl,H.bK,H.up,H.bu,H.aC,H.a7,H.a4,H.aw,H.ak,H.am,v4 H.ft e,H.c8,H.ec,H.fT,H.fy,H.ops,H.args,H.bF⟩
theorem aG.CX(H:aG A D M){t:Int}{k:Nat}{xs:List V}{l:List (Int)}(n:aj t)(e:xs=ae l):aG ((A.new 22 t k (.list xs)).set 3 0 (.dI ar (fd (oO (D 3) (jC A 22)) t (U (.ref ⟨22,t,k⟩))))) (aH D 3 (D 3++[t])) (M.gX t l):=
 ⟨H.cl,H.sn,H.bn,H.self,H.Y,H.mem,congrArg (λg=>U (AO.dI ar g)) (jo (g':=jC (A.new 22 t k (.list xs)) 22) ((if_pos n).trans (Z oy rfl)) λx c=>by refine((Z (if_neg (c:=22=22/\x=t) λq=>c q.2) ?_):(if aj x then U (V.ref ⟨22,x,if 22=22/\x=t then k else A.st 22 x⟩) else none)=_);rfl),H.val,H.bl,H.bK,H.up,H.bu,H.aC,H.a7,H.a4,H.aw,H.ak,H.am,H.ft,v4 H.c8 e,H.ec,H.fT,H.fy,H.ops,H.args,H.bF⟩
theorem aG.Eh(H:aG A D M){t:Int}{k:Nat}{xs:List V}{l:List (Int×Int×Int)}(n:aj t)(e:xs=Nw ij l):aG ((A.new 23 t k (.list xs)).set 5 0 (.dI ar (fd (oO (D 5) (jC A 23)) t (U (.ref ⟨23,t,k⟩))))) (aH D 5 (D 5++[t])) (M.hk t l):=
 ⟨H.cl,H.sn,H.bn,H.self,H.Y,H.mem,H.aM,H.val,congrArg (λg=>U (AO.dI ar g)) (jo (g':=jC (A.new 23 t k (.list xs)) 23) ((if_pos n).trans (Z oy rfl)) λx c=>by refine((Z (if_neg (c:=23=23/\x=t) λq=>c q.2) ?_):(if aj x then U (V.ref ⟨23,x,if 23=23/\x=t then k else A.st 23 x⟩) else none)=_);rfl),H.bK,H.up,H.bu,H.aC,H.a7,H.a4,H.aw,H.ak,H.am,H.ft,H.c8,v4 H.ec e,H.fT,H.fy,H.ops,H.args,H.bF⟩
theorem aG.Fu(H:aG A D M){t:Int}{k:Nat}{xs:List V}{l:List (Int)}(n:aj t)(e:xs=ae l):aG ((A.new 24 t k (.list xs)).set 6 0 (.dI ar (fd (oO (D 6) (jC A 24)) t (U (.ref ⟨24,t,k⟩))))) (aH D 6 (D 6++[t])) (M.mq t l):=
 ⟨H.cl,H.sn,H.bn,H.self,H.Y,H.mem,H.aM,H.val,H.bl,congrArg (λg=>U (AO.dI ar g)) (jo (g':=jC (A.new 24 t k (.list xs)) 24) ((if_pos n).trans (Z oy rfl)) λx c=>by refine((Z (if_neg (c:=24=24/\x=t) λq=>c q.2) ?_):(if aj x then U (V.ref ⟨24,x,if 24=24/\x=t then k else A.st 24 x⟩) else none)=_);rfl),H.up,H.bu,H.aC,H.a7,H.a4,H.aw,H.ak,H.am,H.ft,H.c8,H.ec,v4 H.fT e,H.fy,H.ops,H.args,H.bF⟩
end
noncomputable def Kq(D:Nat->List Int)(t:Int):Nat->List Int:=aH (aH (aH (aH (aH (aH D 1 (D 1++[t])) 2 (D 2++[t])) 3 (D 3++[t])) 5 (D 5++[t])) 6 (D 6++[t])) 4 (D 4++[t])
noncomputable def ea(M:Hs)(t:Int):Hs:=(((((M.kB (aH M.Y t t)).oe t [t]).gX t []).hk t []).mq t []).ua (aH M.val t (if fM t then t else 0))
def pZ(A A':AH):Prop:=∀k t,24<k->A'.o k t=A.o k t/\A'.st k t=A.st k t
theorem pZ.trans{B C:AH}(a:pZ A B)(b:pZ B C):pZ A C:=λk t l=>⟨(b k t l).1.trans (a k t l).1,(b k t l).2.trans (a k t l).2⟩
theorem pZ.set{k:Nat}{t:Int}{x:AO}(h:k<=24):pZ A (A.set k t x):=λK T l=>⟨if_neg λq=>absurd (bM (gF _ _) 0x13031371841311318481387 rfl h l (KQ q.1)) (Ll 0),rfl⟩
theorem pZ.new{k n:Nat}{t:Int}{x:AO}(h:k<=24):pZ A (A.new k t n x):=λK T l=>⟨if_neg λq=>absurd (bM (gF _ _) 0x13031371841311318481387 rfl h l (KQ q.1)) (Ll 0),if_neg λq=>absurd (bM (gF _ _) 0x13031371841311318481387 rfl h l (KQ q.1)) (Ll 0)⟩
section
variable {D:Nat->List Int} {Ui:List (Int×Int)}
theorem HP{P:PS}(E:(J[0]?).join=U Me)(e:(J[1]?).join=U (.int t))(R:AR h A)(H:aG A D M)(n:aj t)(q:∀h' A',AR h' A'->aG A' (aH D 2 (D 2++[t])) (M.oe t [t])->pZ A A'->St.bh G1 C r J P h'):
  St.bh G1 C (.a8 (.sub (.ao (.var 0) "members") (.var 1)) (.list [.var 1])::r) J P h:=by
 refine aY (ab e (c6 21 t (xs:=[.int t]) R (by refine(?_ :1<=aN);decide) λK c a=>gE ?_));exact ab E (lE a (fs:=bC A M) H.self H.sn rfl (aB e (cD (A:=A.new 21 t K _) (k:=2) (t:=0) a H.mem (aR n) λd b=>q _ _ b (H.FN n rfl) (.trans (.new (by decide)) (.set (by decide))))))
theorem EO{P:PS}(e:(J[0]?).join=U Me)(E:(J[1]?).join=U (.int t))(R:AR h A)(H:aG A D M)(n:aj t)(q:∀h' A',AR h' A'->aG A' (aH D 3 (D 3++[t])) (M.gX t [])->pZ A A'->St.bh G1 C r J P h'):
  St.bh G1 C (.a8 (.sub (.ao (.var 0) "uses") (.var 1)) (.list [])::r) J P h:=by
 refine aY (c6 22 t (xs:=[]) R (by refine(?_ :0<=aN);decide) λK c a=>gE ?_);exact ab e (lE a (fs:=bC A M) H.self H.sn rfl (aB E (cD (A:=A.new 22 t K _) (k:=3) (t:=0) a H.aM (aR n) λd b=>q _ _ b (H.CX n rfl) (.trans (.new (by decide)) (.set (by decide))))))
theorem HN{P:PS}(e:(J[0]?).join=U Me)(E:(J[1]?).join=U (.int t))(R:AR h A)(H:aG A D M)(n:aj t)(q:∀h' A',AR h' A'->aG A' (aH D 5 (D 5++[t])) (M.hk t [])->pZ A A'->St.bh G1 C r J P h'):
  St.bh G1 C (.a8 (.sub (.ao (.var 0) "apart") (.var 1)) (.list [])::r) J P h:=by
 refine aY (c6 23 t (xs:=[]) R (by refine(?_ :0<=aN);decide) λK c a=>gE ?_);exact ab e (lE a (fs:=bC A M) H.self H.sn rfl (aB E (cD (A:=A.new 23 t K _) (k:=5) (t:=0) a H.bl (aR n) λd b=>q _ _ b (H.Eh n rfl) (.trans (.new (by decide)) (.set (by decide))))))
theorem H4{P:PS}(e:(J[0]?).join=U Me)(E:(J[1]?).join=U (.int t))(R:AR h A)(H:aG A D M)(n:aj t)(q:∀h' A',AR h' A'->aG A' (aH D 6 (D 6++[t])) (M.mq t [])->pZ A A'->St.bh G1 C r J P h'):
  St.bh G1 C (.a8 (.sub (.ao (.var 0) "watchers") (.var 1)) (.list [])::r) J P h:=by
 refine aY (c6 24 t (xs:=[]) R (by refine(?_ :0<=aN);decide) λK c a=>gE ?_);exact ab e (lE a (fs:=bC A M) H.self H.sn rfl (aB E (cD (A:=A.new 24 t K _) (k:=6) (t:=0) a H.bK (aR n) λd b=>q _ _ b (H.Fu n rfl) (.trans (.new (by decide)) (.set (by decide))))))
theorem Dg{P:PS}(R:AR h A)(H:aG A D M)(N:aj t)(q:∀h' A',AR h' A'->aG A' (aH (aH (aH (aH (aH D 1 (D 1++[t])) 2 (D 2++[t])) 3 (D 3++[t])) 5 (D 5++[t])) 6 (D 6++[t])) (((((M.kB (aH M.Y t t)).oe t [t]).gX t []).hk t []).mq t [])->pZ A A'->St.bh G1 (a5 G1 T1 (n+3)) (ca.body.drop 5) [U Me,U (.int t),KF,KF,KF] P h'):
  St.bh G1 (a5 G1 T1 (n+3)) ca.body [U Me,U (.int t),KF,KF,KF] P h:=by
 exact aY (aB rfl (gE (hK R H.sn H.self rfl (aB rfl (cD R H.Y (aR N) λm r=>HP rfl rfl r (H.Dd (t:=t) (v:=t) N) N λo p a b f=>EO rfl rfl a b N λs u c d F=>HN rfl rfl c d N λw x e g i=>H4 rfl rfl e g N λy z j k l=>q _ _ j k ((((pZ.set (by decide)).trans f).trans F).trans (i.trans l)))))))
end
theorem IN:G1 "VALUE_OPS"=U (.aA [.str "num",.str "bvnum",.str "true",.str "false"]):=by kernel_rfl
section
variable {D:Nat->List Int} {Ui:List (Int×Int)}
theorem GX{P:PS}(E:(J[0]?).join=U Me)(e:(J[1]?).join=U (.int t))(R:AR h A)(H:aG A D M)(N:aj t)(q:∀h' A',AR h' A'->aG A' (aH D 4 (D 4++[t])) (M.ua (aH M.val t (if fM t=true then t else 0)))->pZ A A'->St.bh G1 (a5 G1 T1 (n+3)) r J P h'):
  St.bh G1 (a5 G1 T1 (n+3)) (.a8 (.sub (.ao (.var 0) "value") (.var 1)) (.cF (.bV .dK (.az (.ao (.var 0) "bank") "op" [.var 1]) (.c5 "VALUE_OPS")) (.var 1) (.aE (.int 0)))::r) J P h:=by
 refine aY (ab E (hK R H.sn H.self rfl (fu R H.bn H.fy rfl q' (ab e (DG R H.b4 N (ab IN ?_))))));have ok:gI h .dK (.str (v7 t)) (.aA [.str "num",.str "bvnum",.str "true",.str "false"])=U (fM t):=by unfold v7;cases fM t<;>rfl
 refine ab ok ?_;induction c:fM t with
 |true=>replace q:=c▸q;exact ab e (gE (ab E (hK R H.sn H.self rfl (aB e (cD R H.val (aR N) λb a=>q _ _ a (H.AN N) (.set (by decide)))))))
 |false=>replace q:=c▸q;exact bI rfl (aS (gE (ab E (hK R H.sn H.self rfl (aB e (cD R H.val (aR N) λb a=>q _ _ a (H.AN N) (.set (by decide))))))))
theorem vE(R:AR h A)(H:aG A D M)(N:aj t)(b:ai.M.arg t=KF)(lt:M.ak.length<aN)(q:∀h' A',AR h' A'->aG A' D (M.bR (M.ak++[.ig t []]))->pZ A A'->Q .none h'):
  St.bh G1 (a5 G1 T1 (n+3)) (ca.body.drop 6) [U Me,U (.int t),KF,KF,KF] (Fl.cY Q) h:=by
 have v:lc t=[]:=by unfold lc;refine Z b ?_;rfl
 refine aY (lL R H.sn H.self rfl ly (a1 rfl (uu R H.sn H.self H.b4 N (Z v (ab (a:=It.bp []) rfl ⟨1,hA (bz (K3 _) ⟨aX rfl,⟨1,hK R H.sn H.self rfl (ab (aq R H.ak) ⟨rfl,(by decide:3<=aN),aq R H.ak,bH R H.ak (by refine Z (KE _) ?_;exact lt) λc r=>?_⟩)⟩⟩)⟩)))));exact⟨K3 _,q _ _ r (H.c7 (l:=M.ak++[e2.ig t []]) (db M.ak (e2.ig t []))) (.set (by decide))⟩
theorem vF(R:AR h A)(H:aG A D M){u:Int}(d:ai.M.arg t=U u)(f:u∈D 1)(c:M.Y u∈D 3)(g:aj (M.Y u))(N:M.bu (eP M u)=KF)(lt:M.ak.length+1<aN)(L:(M.aM (M.Y u)).length<aN)
  (q:∀h' A',AR h' A'->aG A' D ((((M.gX (M.Y u) (M.aM (M.Y u)++[t])).bR (M.ak++[.ig t [M.Y u]])).bR ((M.ak++[.ig t [M.Y u]])++[.g6 (eP M u)])).hu (aH M.bu (eP M u) (U t)))->pZ A A'->Q .none h'):
  St.bh G1 (a5 G1 T1 (n+3)) (ca.body.drop 6) [U Me,U (.int t),KF,KF,KF] (Fl.cY Q) h:=by
 refine ay (aZ d) λT j=>aY (lL R H.sn H.self rfl ly (a1 rfl (uu R H.sn H.self H.b4 T (Z (i1 d) (ab (a:=It.bp [.int u]) rfl ⟨2,hK R H.sn H.self rfl (cK R H.Y (I5 f j) ⟨by decide,hA (bz (by refine(?_ :1<=aN);decide) ⟨aX rfl,?_⟩)⟩)⟩)))));refine⟨2,⟨aX rfl,hK R H.sn H.self rfl (cK R H.aM ((if_pos c).trans (if_pos g):oO (D 3) (jC A 22) (M.Y u)=U (.ref (A.R 22 (M.Y u)))) (ib R (H.c8 _ c) (Z (bb _) L) λo r=>?_))⟩⟩;have b:=H.q2 (t:=M.Y u) (l:=M.aM (M.Y u)++[t]) (fB (M.aM (M.Y u)) [t]);refine hK r b.sn b.self rfl (ab (aq r b.ak) ⟨rfl,(by decide:3<=aN),aq r b.ak,bH r b.ak (Z (KE _) (Nat.lt_of_succ_lt lt)) λp i=>?_⟩);have e:=b.c7 (l:=M.ak++[e2.ig t [M.Y u]]) (db M.ak (e2.ig t [M.Y u]));refine⟨by refine(?_ :1<=aN);decide,?_⟩;exact lL i e.sn e.self rfl lJ (a1 rfl (Bd i e d f g N (((Z (be _) lt):(M.ak++[e2.ig t [M.Y u]]).length<aN)) λs v k m F=>q _ _ k m (.trans (.trans (.set (by decide)) (.set (by decide))) F)))
end
section
variable {D:Nat->List Int}
theorem aG.ol(H:aG A D M){k:Nat}(e:M.aw=[]):aG ((A.new 12 0 k (.list [])).set 30 0 (.dS (bC (A.new 12 0 k (.list [])) M))) D M:=
 {H with self:=rfl,aw:=(by refine Z e ?_;rfl)}
theorem EM(R:AR h A)(H:aG A D M)(e:M.aw=[])(q:∀h' A',AR h' A'->aG A' D M->(∀k t,30<k->A'.o k t=A.o k t/\A'.st k t=A.st k t)->Q .none h'):cw (n+1) "close" [Me] Q h:=by have o:=H.aw;replace o:=e▸o;refine ab lj ⟨rfl,aX rfl,1,hK R H.sn H.self rfl (cE R o ⟨K3 _,aY (c6 12 0 (xs:=[]) R (K3 _) λk b r=>?_)⟩)⟩;have:=gm (f:="queue") (v:=.ref ⟨12,0,k⟩) (fs':=bC (A.new 12 0 k (.list [])) M) (P:=λh=>Q .none h) (A:=A.new 12 0 k (.list [])) (k:=30) (t:=0) r H.self (aX rfl) rfl λc a=>q _ _ a (H.ol e) λK t l=>⟨(if_neg λq=>absurd (bM (kT _) 0x1303131131e471371e4 rfl l (KQ q.1)) (Ll 0)).trans (if_neg λq=>absurd (bM (kT _) 0x1303131131e47137c3 rfl l (KQ q.1)) (Ll 0)),if_neg λq=>absurd (bM (kT _) 0x1303131131e47137c3 rfl l (KQ q.1)) (Ll 0)⟩;rw[show(A.new 12 0 k (.list [])).R 30 0=⟨30,0,sN⟩ from congrArg (cq.mk 30 0) H.sn] at this;exact this
theorem aG.IX(H:aG A D M)(f:Fr pH A A'):aG A' D M:=by
 have o:∀k t,pH k=true->A'.o k t=A.o k t:=λk t q=>(f k t q).1;exact⟨H.cl,(f 30 0 rfl).2.1.trans H.sn,(f 31 0 rfl).2.1.trans H.bn,(o 30 0 rfl).trans (H.self.trans (Z (v5 f) rfl)),(o 1 0 rfl).trans H.Y,(o 2 0 rfl).trans (H.mem.trans (Z (iB f rfl) rfl)),(o 3 0 rfl).trans (H.aM.trans (Z (iB f rfl) rfl)),(o 4 0 rfl).trans H.val,(o 5 0 rfl).trans (H.bl.trans (Z (iB f rfl) rfl)),(o 6 0 rfl).trans (H.bK.trans (Z (iB f rfl) rfl)),
  (o 7 0 rfl).trans H.up,(o 8 0 rfl).trans H.bu,(o 9 0 rfl).trans H.aC,(o 10 0 rfl).trans H.a7,(o 11 0 rfl).trans H.a4,(o 12 0 rfl).trans H.aw,(o 13 0 rfl).trans H.ak,(o 14 0 rfl).trans H.am,λt n=>(o 21 t rfl).trans (H.ft t n),λt n=>(o 22 t rfl).trans (H.c8 t n),λt n=>(o 23 t rfl).trans (H.ec t n),λt n=>(o 24 t rfl).trans (H.fT t n),
  (o 31 0 rfl).trans (H.fy.trans (Z (tG f) rfl)),(o 32 0 rfl).trans H.ops,(o 33 0 rfl).trans H.args,(o 35 0 rfl).trans H.bF⟩
end
noncomputable def ie(M:Hs)(t:Int):Hs:=match ai.M.arg t with
 |none=>(ea M t).bR (M.ak++[.ig t []])
 |some u=>((((ea M t).gX ((ea M t).Y u) ((ea M t).aM ((ea M t).Y u)++[t])).bR (M.ak++[.ig t [(ea M t).Y u]])).bR ((M.ak++[.ig t [(ea M t).Y u]])++[.g6 (eP (ea M t) u)])).hu (aH M.bu (eP (ea M t) u) (U t))
noncomputable def Gf(M:Hs)(D:List Int)(t:Int):Bool:=!D.contains t&&M.aw.isEmpty&&S3 M.ak.length 90&&match ai.M.arg t with
 |none=>true
 |some u=>D.contains u&&(D++[t]).contains ((ea M t).Y u)&&decide (aj ((ea M t).Y u))&&(M.bu (eP (ea M t) u)).isNone&&S3 ((ea M t).aM ((ea M t).Y u)).length 90
section
variable {D:List Int}
theorem aG.Ka{D E:Nat->List Int}(H:aG A D M)(e:∀k,1<=k->k<=6->D k=E k):aG A E M:=by have a:=e 2 (by decide) (by decide);have b:=e 3 (by decide) (by decide);have c:=e 5 (by decide) (by decide);have d:=e 6 (by decide) (by decide);exact⟨H.cl,H.sn,H.bn,H.self,hR (e 1 (by decide) (by decide)) H.Y,hR a H.mem,hR b H.aM,hR (e 4 (by decide) (by decide)) H.val,hR c H.bl,hR d H.bK,H.up,H.bu,H.aC,H.a7,H.a4,H.aw,H.ak,H.am,hR a H.ft,hR b H.c8,hR c H.ec,hR d H.fT,H.fy,H.ops,H.args,H.bF⟩
theorem y3{a b:Nat}(h:a<=90)(H:b<=5):a+b<aN:=KU (O3 h H) (by decide)
theorem CD{t:Int}:∀k,1<=k->k<=6->(aH (aH (aH (aH (aH (aH (λ_=>D) 1 (D++[t])) 2 (D++[t])) 3 (D++[t])) 5 (D++[t])) 6 (D++[t])) 4 (D++[t]):Nat->List Int) k=D++[t]:=by intro k h H;rcases((by decide:∀k:Nat,k<7->1<=k->k=1\/k=2\/k=3\/k=4\/k=5\/k=6) k (Pz H) h) with rfl |rfl |rfl |rfl |rfl |rfl<;>rfl
theorem Ed(R:AR h A)(H:aG A (λ_=>D) M)(N:aj t)(ok:Gf M D t=true)(q:∀h' A',AR h' A'->aG A' (λ_=>D++[t]) (ie M t)->pZ A A'->Q .none h'):cw (n+4) "enter" [Me,.int t] Q h:=by
 unfold Gf at ok;simp only[Lu] at ok;refine ay ok λB ok=>ay B λa l=>?_;obtain⟨_,_⟩:=a;have l:M.ak.length<=90:=Md l;refine ab xo ⟨rfl,Dg R H N λC E i j k=>GX rfl rfl i j N λG m g d o=>?_⟩;have d:aG m (λ_=>D++[t]) (ea M t):=d.Ka CD;have F:=k.trans o;induction c:ai.M.arg t with
 |none=>refine vE g d N c (y3 (b:=0) l (by decide)) λp s r e f=>q _ _ r ?_ (F.trans f);unfold ie;exact Z c (e)
 |some u=>rw[c] at ok;simp only[Lu] at ok;obtain⟨⟨⟨⟨v,w⟩,x⟩,y⟩,z⟩:=ok;refine vF g d c (KZ _ (LZ.mp v)) (LZ.mp w) (of_decide_eq_true x) (Ni.mp y) (y3 (b:=1) l (by decide)) (y3 (b:=0) (Md z) (by decide)) λp s r e f=>q _ _ r ?_ (F.trans f);unfold ie;exact Z c (e)
theorem xC{g:Int->Option V}{t:Int}(h:t∉D):oO D g t=KF:=if_neg h
noncomputable def Hd(k:Nat):Bool:=LA 30 k&&!(Lk k 60)
def Fo(A A':AH):Prop:=∀k t,Hd k=true->A'.o k t=A.o k t/\A'.st k t=A.st k t
theorem Fo.trans{B C:AH}(a:Fo A B)(b:Fo B C):Fo A C:=λk t l=>⟨(b k t l).1.trans (a k t l).1,(b k t l).2.trans (a k t l).2⟩
theorem nz(h:Hd k=true):30<k/\k≠60:=by unfold Hd at h;simp only[Lu,MZ,Bool.not_eq_true'] at h;exact⟨h.1,λe=>by replace h:=e▸h;exact aK h.2.symm⟩
theorem pZ.fo(f:pZ A A'):Fo A A':=λk t l=>f k t (by have:=(nz l).1;exact bM (kT _) 0x1131847131131e47 rfl this)
theorem Fo.Gy{x:AO}:Fo A (A.set 60 0 x):=λk t l=>⟨if_neg λq=>(nz l).2 q.1,rfl⟩
theorem Fo.GV{x:AO}{n:Nat}:Fo A (A.new 60 0 n x):=λk t l=>⟨if_neg λq=>(nz l).2 q.1,if_neg λq=>(nz l).2 q.1⟩
theorem sZ:(ie M t).aw=M.aw:=by unfold ie;cases ai.M.arg t<;>rfl
theorem xZ(R:AR h A)(H:aG A (λ_=>D) M)(N:aj t)(ok:Gf M D t=true)(q:∀h' A',AR h' A'->aG A' (λ_=>D++[t]) (ie M t)->Fo A A'->Q .none h'):cw (n+5) "add_term" [Me,.int t] Q h:=by
 have o:=ok;unfold Gf at ok;simp only[Lu] at ok;obtain⟨⟨⟨d,y⟩,G⟩,ok⟩:=ok;have d:t∉D:=λm=>by rw[LZ.mpr m] at d;exact aK d
 refine ab kF ⟨rfl,c6 60 0 (xs:=[.int t]) R (by refine(?_ :1<=aN);decide) λm j r=>⟨aX rfl,2,?_⟩⟩;have b:aG (A.new 60 0 m (.list [.int t])) (λ_=>D) M:=H.IX (.new rfl);have v:(!(oO D (hX M.Y) t).isSome)=true:=by refine Z (xC d) ?_;rfl
 refine cE r (k:=60) (t:=0) rfl ⟨by refine(?_ :1<=aN);decide,jO r (k:=60) (t:=0) (i:= -1) rfl rfl ⟨aX rfl,bz (K3 _) ⟨aX rfl,hK r b.sn b.self rfl (fO r b.Y (bW v ?_))⟩⟩⟩;have s:∀{P:PS},P .next [U Me,U (.int t),U (.ref ⟨60,0,m⟩),U (.int t),U (.fl []),KF] j->St.bh G1 (a5 G1 T1 (n+4)) [.a8 (.var 4) (.comp (.var 5) 5 (.az (.var 0) "inner" [.var 3]) (U (.bV .eW (.var 5) (.ao (.var 0) "root"))))] [U Me,U (.int t),U (.ref ⟨60,0,m⟩),U (.int t),U (.fl []),KF] P j:=by
  intro P p;refine aY (lL r b.sn b.self rfl ly (a1 rfl (uu r b.sn b.self b.b4 N ?_)));unfold lc;induction w:ai.M.arg t with
  |none=>exact ab (a:=.bp []) rfl ⟨1,hA (bz (K3 _) ⟨aX rfl,p⟩)⟩
  |some u=>rw[w] at ok;simp only[Lu] at ok;refine ab (a:=.bp [.int u]) rfl ⟨2,x5 (hK r b.sn b.self rfl (fO r b.Y (bI (by refine Z (I5 (LZ.mp ok.1.1.1.1:u∈D) ((aZ w).2)) ?_;rfl) ?_)))⟩;exact hA (bz (K3 _) ⟨aX rfl,p⟩)
 refine s ⟨K3 _,ab (aq r (k:=60) (t:=0) rfl) ⟨rfl,aq r (k:=60) (t:=0) rfl,pS (xs:=[]) r (k:=60) (t:=0) rfl (by decide) λI e=>?_⟩⟩;have c:aG ((A.new 60 0 m (.list [.int t])).set 60 0 (.list [])) (λ_=>D) M:=b.IX (.set rfl);refine hK e c.sn c.self rfl (fO e c.Y (bW v (lL e c.sn c.self rfl yv (a1 rfl (Ed e c N o λz x f g F=>?_)))));have L:cb z (.ref ⟨60,0,m⟩)=U []:=hR (congrArg (cq.mk 60 0) (F 60 0 (by decide)).2:x.R 60 0=⟨60,0,m⟩) (bT f ((F 60 0 (by decide)).1:x.o 60 0=U (.list [])));exact ab (a:=[]) L ⟨K3 _,lL f g.sn g.self rfl i5 (EM f g (sZ.trans (Os.mp y:M.aw=[])) λJ K B C E=>q _ _ B C ((Fo.GV.trans Fo.Gy).trans (F.fo.trans λk t l=>E k t (nz l).1)))⟩
end
noncomputable def MN(l:List Int):Hs:=l.foldl ie M0
noncomputable def M9:Hs:=MN ar
theorem Gv:∀i:Fin 9,Gf (MN (ar.take i)) (ar.take i) (3+(i.val:Int))=true:=by decide+kernel
theorem ts{d r:List Int}{t:Int}(e:ar=d++t::r):Gf (MN d) d t=true/\aj t:=by
 have lt:d.length<9:=by have:=congrArg Oh e;simp only[KH,Lr] at this;have l:ar.length=9:=rfl;exact bM (ip _ _ _) 0x11379313111387913993 rfl (KQ this.symm) (KQ l)
 have a:ar.take d.length=d:=by(refine Z e ?_;rw[List.take_left']);rfl
 have E:ar[d.length]? =U t:=by(refine Z e (Z (Lj (KX _)) ?_);rw[MY]);rfl
 have h:=((by decide+kernel:∀i:Fin 9,ar[i.val]? =U (3+(i.val:Int))) ⟨_,lt⟩).symm.trans E
 (replace h:=KC h;clear E e;subst h)
 have:=Gv ⟨_,lt⟩;rw[a] at this;exact⟨this,by unfold aj;lia⟩
theorem EW{m o p x3 u x7 x8 x9 x10 x X c f i j:Option V}{P:PS}(R:AR h A)(H:aG A (λ_=>[]) M0)(q:∀h' A' y,AR h' A'->ah A' M9->Fo A A'->St.bh G1 (a5 G1 T1 (n+5)) r [m,o,p,x3,U (.fl (ae ar)),u,U Me,x7,y,x9,x10,x,X,c,f,i,j] P h'):
  St.bh G1 (a5 G1 T1 (n+5)) (.for (.var 8) (.var 4) [.expr (.az (.var 6) "add_term" [.var 8])]::r) [m,o,p,x3,U (.fl (ae ar)),u,U Me,x7,x8,x9,x10,x,X,c,f,i,j] P h:=by
 refine rD (aB rfl (ab (a:=It.bp (ae ar)) rfl (i3 (λd A'=>aG A' (λ_=>d) (MN d)/\Fo A A') (aX rfl) (λd t s v w K e b l k=>?_) (λv w y b l=>q _ _ y l b.1.r6 b.2) R ⟨H,λ_ _ _=>⟨rfl,rfl⟩⟩)));have g:=ts e;refine lL l b.1.sn b.1.self rfl ct (a1 rfl (xZ l b.1 g.2 g.1 λC D z B F=>k _ _ z ⟨Z (show MN (d++[t])=ie (MN d) t by unfold MN;refine Z M7 ?_;rfl) ?_,b.2.trans F⟩));exact B
theorem xd(h:∀x,M.Y x=x):∀x,(ie M t).Y x=x:=by
 have e:(ie M t).Y=aH M.Y t t:=by unfold ie;cases ai.M.arg t<;>rfl
 intro x;refine Z e ?_;by_cases c:x=t;·clear e;subst c;exact ai.M.aP _ _ _
 ·exact Z (ai.M.aI _ _ c) (h x)
theorem dL:∀x,M9.Y x=x:=by
 have:∀(l:List Int) (M:Hs),(∀x,M.Y x=x)->∀x,(l.foldl ie M).Y x=x:=by
  intro l;induction l with
  |nil=>exact λ_ h=>h
  |cons t l i=>exact λM h=>i _ (xd h)
 exact this ar M0 λ_=>rfl
theorem iG{P:Int->Prop}(h:∀i:Fin 9,P (3+(i.val:Int)))(n:aj t):P t:=by refine ay n λa b=>?_;have:=h ⟨(t-3).toNat,by omega⟩;rwa[(by omega:3+(((t-3).toNat:Nat):Int)=t)] at this
theorem Ey(n:aj t):M9.mem t=[t]:=iG (P:=λt=>M9.mem t=[t]) (by decide+kernel) n
theorem BO(n:aj t):M9.aM t=if t=3 then[9] else if t=4 then[10] else if t=5 then[11] else[]:=iG (P:=λt=>M9.aM t=if t=3 then[9] else if t=4 then[10] else if t=5 then[11] else[]) (by decide+kernel) n
theorem zg(n:aj t):M9.val t=if fM t=true then t else 0:=iG (P:=λt=>M9.val t=if fM t=true then t else 0) (by decide+kernel) n
theorem Ai(n:aj t):M9.bl t=[]:=iG (P:=λt=>M9.bl t=[]) (by decide+kernel) n
theorem EG(n:aj t):M9.bK t=[]:=iG (P:=λt=>M9.bK t=[]) (by decide+kernel) n
theorem AE:M9.bu=aH (aH (aH (λ_=>KF) [0,3] (U 9)) [0,4] (U 10)) [0,5] (U 11):=by kernel_rfl
theorem Bg:M9.ak.length=12:=by kernel_rfl
theorem sH{y:Int}(c:cf [] x y):x=y:=by
 induction c with
 |refl=>rfl
 |u1 _ m _=>cases m
 |wz _ m _=>cases m
theorem w8(h:fM t=true):num t:=by unfold fM at h;simp only[Mo,beq_iff_eq,beq_iff_eq] at h;exact h
theorem GO:cN [] M9 [] []:=by
 have up:M9.up=λ_=>KF:=rfl;refine⟨⟨λx=>⟨λy w e=>(by rw[up] at e;exact al e)⟩,λx y w e=>(by rw[up] at e;exact al e),λ_ _ _ m=>(nomatch m)⟩,λ_ _ _ m=>(nomatch m),.nil,λx y _ _=>?_,λx n=>by rw[dL];exact n,λx _=>by rw[dL],λt n _ x=>?_,λt n _ x=>?_,λt n _ v=>?_,λx n=>?_,λt n _ p H=>?_,λt n p H=>?_,λm x y h=>(nomatch h),λ_ m=>(nomatch m),λt n w W=>?_,λt p e=>(by replace e:=(rfl:M9.aC=λ_=>KF)▸e;exact al e),λm o e=>?_,λt u e=>?_,λ_ m=>(nomatch m),λ_ _ _ m=>(nomatch m),by decide+kernel,by decide+kernel,by decide+kernel,by decide+kernel⟩
 ·rw[dL,dL]
  exact⟨λe=>e▸.refl,sH⟩
 ·(refine Z (Ey n) ?_;rw[dL,KG])
  exact⟨λe=>by refine Z e ?_;exact⟨n,rfl⟩,λe=>e.2⟩
 ·rw[BO n]
  constructor
  ·intro m
   refine⟨t,?_,dL t⟩;by_cases C:t=3;·clear n;subst C;replace m:=(if_pos rfl)▸m;cases KG.mp m;rfl
   ·replace m:=(if_neg C)▸m
    by_cases a:t=4;·clear C n;subst a;replace m:=(if_pos rfl)▸m;cases KG.mp m;rfl
    ·replace m:=(if_neg a)▸m
     by_cases b:t=5;·clear a C n;subst b;replace m:=(if_pos rfl)▸m;cases KG.mp m;rfl
     ·replace m:=(if_neg b)▸m;exact(nomatch m)
  ·rintro⟨u,e,r⟩
   rw[dL] at r;subst r;clear n;rcases f9 e with⟨rfl,rfl⟩ |⟨rfl,rfl⟩ |⟨rfl,rfl⟩<;>exact KG.mpr rfl
 ·rw[zg n] at v⊢
  induction c:fM t with
  |false=>rw[c] at v;exact(v rfl).elim
  |true=>rw[if_pos rfl,dL];exact⟨w8 c,rfl⟩
 ·rw[dL]
  rcases n with rfl |rfl<;>(rw[zg (by decide)];decide)
 ·rw[Ai n] at H;cases H
 ·rw[Ai n] at H;cases H
 ·replace W:=(EG n)▸W;exact(nomatch W)
 ·replace e:=AE▸e
  by_cases b:m=[0,5];·subst b;rw[ai.M.aP] at e;(replace e:=KC e;subst e);exact⟨5,rfl,by rw[dL]⟩
  ·replace e:=(ai.M.aI _ _ b)▸e
   by_cases a:m=[0,4];·clear b;subst a;rw[ai.M.aP] at e;(replace e:=KC e;subst e);exact⟨4,rfl,by rw[dL]⟩
   ·replace e:=(ai.M.aI _ _ a)▸e
    by_cases C:m=[0,3];·clear a b;subst C;rw[ai.M.aP] at e;(replace e:=KC e;subst e);exact⟨3,rfl,by rw[dL]⟩
    ·replace e:=(ai.M.aI _ _ C)▸e;exact al e
 ·(refine Z AE ?_;rw[dL])
  rcases f9 e with⟨rfl,rfl⟩ |⟨rfl,rfl⟩ |⟨rfl,rfl⟩<;>exact⟨_,rfl,.inl rfl⟩
noncomputable def iI(M:Hs)(t a b:Int):Hs:=M.Bx (aH M.aC t (U (a,b)))
noncomputable def lB(M:Hs)(t x:Int):Hs:=M.mq x (M.bK x++[t])
noncomputable def eI(M:Hs)(t a b:Int):Hs:=(lB (lB (iI M t a b) t a) t b).bR (M.ak++[.pR t a b])
theorem Hr{k i:Nat}(h:i<k):jt (hS k) ((12+i:Nat):Int)=U (.str "="):=by
 refine Z (ia _ _) ?_;unfold hS;refine Z (Lj (Lf 12 i)) (?_ :(NG k (V.str "="))[12+i-12]? =_)
 (rw[Qw];exact Z (Qt) (Z (if_pos h) rfl))
theorem Cd{e:List (Int×Int)}{i:Nat}{p:Int×Int}(h:e[i]? =U p):jt (eM e) ((12+i:Nat):Int)=U (b' p):=by refine Z (ia _ _) ?_;unfold eM;refine Z (Lj (Lf 12 i)) (?_ :(e.map b')[12+i-12]? =_);simp only[Qw,Mz,h];rfl
theorem tz(R:AR h A)(H:ah A M)(S:mD M)(u:∀x,aj x->M.Y x=x){t:Int}(v:t∈fC)(d:aj a)(B:aj b)(E:a≠b)(y:M.aC t=KF)(w:∀x,aj x->(M.bK x).length<=100)(lt:M.ak.length<=1000)(L:M.a4.length<=1000)
  (q:∀h' A' N,AR h' A'->ah A' N->lu (eI M t a b) t N->Fr pL A A'->Q .none h'):cw (n+4) "place_watch" [Me,.int t,.int a,.int b] Q h:=by
 refine ab mj ⟨rfl,aY (dC (av (bj R H rfl (aB rfl (cK R H.Y (rd d) (av (bj R H rfl (aB rfl (cK R H.Y (rd B) (Z (u a d) (Z (u b B) (ax (EC (by decide:2<=aN) rfl (EC (aX rfl) (aX rfl) (aY (dC (av (aB rfl (av (aB rfl (ax ⟨(by decide:2<=aN),gE (bj R H rfl (aB rfl (cD R H.aC v λI j=>?_)))⟩)))))))))))))))))))))⟩;have g:ah (A.set 9 0 _) (iI M t a b):=H.Al (dq (U (a,b)));refine e1 (bj j g rfl (aB rfl ?_));have C:∀{k:Nat},k<=101->k<aN:=λh=>KU h (by decide);refine cK j g.bK (j4 d) (ib j (g.fT a d) (Z (bb _) (C (Lp (w a d)))) λJ m=>?_);have i:ah _ (lB (iI M t a b) t a):=g.vf (fB ((iI M t a b).bK a) [t]);have W:(lB (iI M t a b) t a).bK b=M.bK b:=ai.M.aI _ _ λe=>E e.symm;refine fG (iu (aB rfl (aB rfl (mx E (e1 (bj m i rfl (aB rfl (cK m i.bK (j4 B) (ib m (i.fT b B) (by(refine Z (bb _) (Z W ?_));exact C (Lp (w b B))) λK r=>?_)))))))));have f:ah _ (lB (lB (iI M t a b) t a) t b):=i.vf (fB ((lB (iI M t a b) t a).bK b) [t]);refine nx (e1 (bj r f rfl (ab (aq r f.ak) ⟨rfl,av (dC (av (aS (av (aB rfl (av (aB rfl (av (aB rfl (ax ⟨(by decide:4<=aN),ax ⟨aq r f.ak,bH r f.ak (Z (KE _) (KU lt (by decide))) λP o=>?_⟩⟩))))))))))⟩)));have s:ah _ (eI M t a b):=f.c7 (l:=M.ak++[e2.pR t a b]) (db M.ak (e2.pR t a b));have z:mD (eI M t a b):=⟨S.Y,S.bl,λx p e=>by
  have e:aH M.aC t (U (a,b)) x=U p:=e;by_cases c:x=t;·clear s o f r W i m g j q y;subst c;rw[ai.M.aP] at e;obtain rfl:=KC e;exact⟨d,B,v⟩
  ·replace e:=(ai.M.aI _ _ c)▸e;exact S.aC x p e⟩;refine e1 (bX o s rfl s3 (a1 rfl (jV o s z (ai.M.aP _ _ _:(eI M t a b).aC t=U (a,b)) (KU L (by decide)) ?_ λV X N D F T G=>q _ _ _ D F T (.trans (.trans (.trans (.set rfl) (.set rfl)) (.trans (.set rfl) (.set rfl))) (G.bU FF)))));·exact((Z (be _) (KU (Ld lt) (by decide))):(M.ak++[e2.pR t a b]).length<aN)
theorem xg(R:AR h A)(H:ah A M){p:Int×Int}(s:M.aC t=U p)(q:Q .none h):cw (n+1) "watch" [Me,.int t] Q h:=by exact ab qO ⟨rfl,fG (iu (aB rfl (bj R H rfl (q8 R H.aC (Z s (bW rfl ⟨_,_,.refl,q⟩))))))⟩
theorem xp(R:AR h A)(H:ah A M)(S:mD M)(l:∀x,aj x->M.Y x=x){i:Nat}{a b:Int}(I:M.cd[i]? =U (a,b))(z:i<3)(c:aj a)(B:aj b)(E:a≠b)(s:M.aC ((12+i:Nat):Int)=KF)(w:∀x,aj x->(M.bK x).length<=100)(lt:M.ak.length<=1000)(L:M.a4.length<=1000)(d:M.aw=[])
  (q:∀h' A' N,AR h' A'->ah A' N->lu (eI M ((12+i:Nat):Int) a b) ((12+i:Nat):Int) N->Fr pL A A'->Q .none h'):cw (n+5) "watch" [Me,.int ((12+i:Nat):Int)] Q h:=by
 have m:((12+i:Nat):Int)∈fC:=by clear q s;rcases(by lia:i=0\/i=1\/i=2) with rfl |rfl |rfl<;>decide
 generalize e:((12+i:Nat):Int)=t at*;have p:jt (hS M.cd.length) t=U (.str "="):=hR e (Hr ((LC.mp I).1:i<M.cd.length));have g:jt (eM M.cd) t=U (b' (a,b)):=hR e (Cd I);refine ab qO ⟨rfl,fG (iu (aB rfl (bj R H rfl (q8 R H.aC (Z s (bI rfl (nx (aY (dC (av (aB rfl (av (bj R H rfl (o0 R H rfl oU (ax (ab jy ⟨rfl,vR R H rfl ⟨_,_,.refl,ax ⟨(by decide:2<=aN),rfl,aX rfl,aX rfl,fG (iu (bj R H rfl (o0 R H rfl q' (a1 rfl ?_))))⟩⟩⟩))))))))))))))))⟩;refine ab vO ⟨rfl,vR R H rfl (jO R H.ops p ⟨_,_,.refl,aS (yQ (bW rfl (aY (bj R H rfl (o0 R H rfl gi (a1 rfl (ab nN ⟨rfl,vR R H rfl (jO R H.args g ⟨_,_,.refl,(uP rfl (aX rfl) (aX rfl) (e1 (bX R H rfl ct (a1 rfl (eu R H c d λC D r f F=>e1 (bX r f rfl ct (a1 rfl (eu r f B d λG J j k o=>e1 (bX j k rfl mC (a3 rfl rfl rfl (tz j k S l m c B E s w lt L λK P N u v T y=>?_)))))))))))⟩)⟩)))))))⟩)⟩;exact q _ _ _ u v T ((F.trans o).trans y)
structure Fg(es:List (bQ×V))(e:List (Int×Int)):Prop where
 k:∀a b v,bc es ⟨"=",[a,b],0,.int 0⟩=U v->∃i:Nat,e[i]? =U (a,b)/\v=.int ((12+i:Nat):Int)
 l:es.length<=11+e.length
theorem Fg.nil:Fg DV []:=⟨λa b v e=>by simp[DV,iU,ht] at e,by decide⟩
theorem Fg.add{s:List (Int×Int)}(E:Fg es s){a b:Int}:Fg (bA es ⟨"=",[a,b],0,.int 0⟩ (.int ((12+s.length:Nat):Int))) (s++[(a,b)]):=by
 refine⟨λx y v e=>?_,?_⟩
 ·rw[ez] at e
  by_cases c:(⟨"=",[x,y],0,.int 0⟩:bQ)=⟨"=",[a,b],0,.int 0⟩
  ·rw[if_pos c] at e
   obtain rfl:=KC e;cases c;exact⟨s.length,by(refine Z (Lj (KX _)) ?_;rw[MY]);rfl,rfl⟩
  ·rw[if_neg c] at e
   exact aD (E.k x y v e) λi h H=>⟨i,by refine Z (Mb (LC.mp h).1) ?_;exact h,H⟩
 ·simp only[be];exact KB (iY _ _ _) (Ld E.l)
noncomputable def Hs.iL(M:Hs)(e:List (Int×Int)):Hs:={M with cd:=e}
structure WI(l:Nat)(A:AH)(cs:List Int)(M:Hs)(S:Ls)(s:List V)(es:List (bQ×V)):Prop where
 H:ah A M
 L:ed A cs S
 C:cN [] M [] []
 to:TO [] M []
 el:M.cd.length<=l
 os:A.o 34 0=U (.list s)
 on:A.o 36 0=U (.dN es)
 sl:s.length<=12+l
 en:Fg es M.cd
 si:∀t p,M.aC t=U p->∃i:Nat,t=((12+i:Nat):Int)/\M.cd[i]? =U p
 is:∀(i:Nat) p,M.cd[i]? =U p->M.aC ((12+i:Nat):Int)=U p
 wd:∀t a b,S.wd t=U (a,b)->aj a/\aj b/\(M.aC t=U (a,b)\/M.aC t=U (b,a))
 sw:∀t,(M.aC t).isSome=true->(S.wd t).isSome=true
 tr:M.ak.length<=12+2*l
 nl:M.a4.length<=l
 nu:∀t∈M.a4,t∈fC/\(S.wd t).isSome=true
 hq:M.aw=[]
 hc:M.aU=KF
 ms:M.am=[]
 wt:oM M (λt=>(M.bK t).length)<=2*l
 lv:S.a0=[[]]
 tl:∀t,S.tl t=KF
 eq:∀k,S.eq k=KF
section
variable {l:Nat} {Ub:List V}
theorem jn(C:cN [] M [] []):∀x,aj x->M.Y x=x:=λx n=>sH ((C.ro (M.Y x) x (C.rn x n) n).mp (C.rr x n))
theorem WI.more(W:WI l A cs M S Ub es):WI (l+1) A cs M S Ub es:=
 ⟨W.H,W.L,W.C,W.to,Lp W.el,W.os,W.on,Lp W.sl,W.en,W.si,W.is,W.wd,W.sw,by have:=W.tr;exact bM (gF _ _) 0x712113823c313712823c3 rfl this,Lp W.nl,W.nu,W.hq,W.hc,W.ms,by have:=W.wt;exact bM (gF _ _) 0x721138231372823 rfl this,W.lv,W.tl,W.eq⟩
theorem WI.vv(R:AR h A)(W:WI l A cs M S Ub es)(s:S.spot<=1000)(q:∀v,0<=v->v<9->∀h' A',AR h' A'->WI l A' cs M {S with spot:=S.spot+1} Ub es->fv A A'->Q (.int v) h'):lw (n+1) "_law_next" [.ref (A.R 40 0),.int 9] Q h:=by exact next R W.L s (by decide) λv V a h' A' r L f e=>q v V a h' A' r ⟨W.H.rZ (f.bU DO),L,W.C,W.to,W.el,(f 34 0 rfl).1.trans W.os,(f 36 0 rfl).1.trans W.on,W.sl,W.en,W.si,W.is,W.wd,W.sw,W.tr,W.nl,W.nu,W.hq,W.hc,W.ms,W.wt,W.lv,W.tl,W.eq⟩ ⟨e,cJ f rfl,cJ f rfl⟩
theorem v'(nx:aj x)(h:M.Y x=x):oM (lB M t x) (λy=>((lB M t x).bK y).length)<=oM M (λy=>(M.bK y).length)+1:=by
 have e:oM (lB M t x) (λy=>((lB M t x).bK y).length)=sm (λy=>if y=x then(if M.Y y=y then(M.bK y).length else 0)+1 else(if M.Y y=y then(M.bK y).length else 0)) ar:=by
  refine iy λy _=>?_;show(if M.Y y=y then(aH M.bK x (M.bK x++[t]) y).length else 0)=_;by_cases c:y=x;·clear nx;subst c;(refine Z (if_pos rfl) (Z (if_pos h) (Z (if_pos h) ?_));(rw[ai.M.aP];exact Z (be _) rfl))
  ·exact Z (if_neg c) (Z (ai.M.aI _ _ c) rfl)
 exact Z e (Z (nT dw) (LO (by split<;>decide) _))
theorem uh{t:Int}(C:cN [] M [] [])(T:t∈fC)(n:aj a)(N:aj b)(S:M.aC t=KF)(w:oM (eI M t a b) (λy=>((eI M t a b).bK y).length)<=6):cN [] (eI M t a b) [] []:=by
 have H:∀{x p},M.aC x=U p->aH M.aC t (U (a,b)) x=U p:=λ{x p} e=>by exact Z (ai.M.aI _ _ λc=>by rw[c,S] at e;exact al e) e
 refine⟨C.1,C.2,C.3,C.4,C.5,C.6,C.7,C.8,C.9,C.10,C.11,C.12,C.13,C.14,λx nx v V=>?_,λx p e=>?_,C.17,C.18,C.19,C.20,C.21,C.22,C.23,w⟩
 ·have dZ:∀(m:Hs) (y:Int),v∈(lB m t y).bK x->v∈m.bK x\/v=t:=λm y h=>by
   have h:v∈aH m.bK y (m.bK y++[t]) x:=h;by_cases c:x=y
   ·subst c;rw[ai.M.aP] at h
    exact(KW.mp h).imp id KG.mp
   ·rw[ai.M.aI _ _ c] at h;exact .inl h
  clear w S T;rcases dZ _ _ V with h |rfl
  ·clear V;rcases dZ _ _ h with h |rfl
   ·exact cV (C.wa x nx v h) λs d=>⟨s,H d⟩
   ·exact⟨_,ai.M.aP _ _ _⟩
  ·exact⟨_,ai.M.aP _ _ _⟩
 ·have e:aH M.aC t (U (a,b)) x=U p:=e
  by_cases c:x=t;·clear H w S;subst c;rw[ai.M.aP] at e;obtain rfl:=KC e;exact⟨n,N,T⟩
  ·rw[ai.M.aI _ _ c] at e;exact C.si x p e
theorem ah.Hx(H:ah A M){k:Nat}(f:Fr pB A A')(st:∀k t,A'.st k t=A.st k t)(e:k=M.cd.length)(a:A'.o 32 0=U (.list (hS k++[.str "="])))(b:A'.o 33 0=U (.list (eM M.cd++[b' p])))(c:A'.o 35 0=U (.list (dV k++[.int 0]))):ah A' (M.iL (M.cd++[p])):=by
 have es:A'.st=A.st:=funext λk=>funext λt=>st k t;have o:∀k t,pB k=true->A'.o k t=A.o k t:=λk t q=>(f k t q).1;have F:bC A' (M.iL (M.cd++[p]))=bC A M:=by have q:=congrArg (λs=>bC ⟨s,A.o,A.vr,A.nn⟩ M) es;exact q
 have B:dr A'=dr A:=by have q:=congrArg (λs=>dr ⟨s,A.o,A.vr,A.nn⟩) es;exact q
 have E:∀k,jC A' k=jC A k:=λk=>by have q:=congrArg (λs=>jC ⟨s,A.o,A.vr,A.nn⟩ k) es;exact q
 have l:(M.cd++[p]).length=k+1:=by rw[e];exact be _
 have h:hS k++[V.str "="]=hS (M.cd++[p]).length:=by rw[l];unfold hS;simp only[K7,QT]
 have d:eM M.cd++[b' p]=eM (M.cd++[p]):=by unfold eM;simp only[K7,La];rfl
 have g:dV k++[V.int 0]=dV (M.cd++[p]).length:=by rw[l];unfold dV;simp only[K7,QT]
 exact⟨H.cl,(st 30 0).trans H.sn,(st 31 0).trans H.bn,(o 30 0 rfl).trans (H.self.trans (by rw[F])),(o 1 0 rfl).trans H.Y,(o 2 0 rfl).trans (H.mem.trans (by rw[E])),(o 3 0 rfl).trans (H.aM.trans (by rw[E])),(o 4 0 rfl).trans H.val,(o 5 0 rfl).trans (H.bl.trans (by rw[E])),(o 6 0 rfl).trans (H.bK.trans (by rw[E])),
  (o 7 0 rfl).trans H.up,(o 8 0 rfl).trans H.bu,(o 9 0 rfl).trans H.aC,(o 10 0 rfl).trans H.a7,(o 11 0 rfl).trans H.a4,(o 12 0 rfl).trans H.aw,(o 13 0 rfl).trans H.ak,(o 14 0 rfl).trans H.am,λt n=>(o 21 t rfl).trans (H.ft t n),λt n=>(o 22 t rfl).trans (H.c8 t n),λt n=>(o 23 t rfl).trans (H.ec t n),λt n=>(o 24 t rfl).trans (H.fT t n),
  (o 31 0 rfl).trans (H.fy.trans (by rw[B])),a.trans (by rw[h];rfl),b.trans (by rw[d];rfl),c.trans (by rw[g];rfl)⟩
theorem ah.H0(H:ah A M)(os:A.o 34 0=U (.list Ub))(o:A.o 36 0=U (.dN es))(l:M.cd.length<=20)(L:Ub.length<=100)(a:es.length<=100):kO A (dr A) (hS M.cd.length) (eM M.cd) Ub (dV M.cd.length) es:=by
 refine⟨H.bn,H.fy,rfl,rfl,rfl,rfl,rfl,H.ops,H.args,os,H.bF,o,?_,?_,L,?_,a⟩;·unfold hS;exact Z KH (Z NR (KB (LO l _) (by decide)))
 ·unfold eM;(refine Z KH (Z (KE _) ?_));exact KB (LO l _) (by decide)
 ·unfold dV;exact Z KH (Z NR (KB (LO l _) (by decide)))
theorem ed.Dq(L:ed A cs S){t:Int}{p:Int×Int}{g:Int->Option V}(e:g=λx=>(aH S.wd t (U p) x).map b'):ed (A.set 46 0 (.dI fC g)) cs {S with wd:=aH S.wd t (U p)}:=
 ⟨L.cl,L.mX,L.gK,L.bJ,L.a0,L.la,by refine Z e ?_;rfl,L.tl,L.eq⟩
theorem IC(k:Nat)(h:p4 k=true):pB k=true:=by have H:=((Lu ..).mp ((h:(LA 39 k&&LA k 49)=true))).1;simp only[MZ] at H;unfold pB;exact Z (show LA 36 k=true from by rw[MZ];exact bM (kT _) 0x1132447131132747 rfl H) (Z (Bool.or_true _) rfl)
end
theorem Ej:G1 "BOOL"=U (.int 0):=by kernel_rfl
section
variable {l:Nat} {Ub:List V}
theorem Fw(x y:Int):∃a b,(if y<x then y else x)=a/\(if x<y then y else x)=b/\((a=x/\b=y)\/(a=y/\b=x)):=by
 refine⟨_,_,rfl,rfl,?_⟩;by_cases c:y<x;·exact Z (if_pos c) (Z (if_neg (by lia)) (.inr ⟨rfl,rfl⟩))
 ·refine Z (if_neg c) ?_
  by_cases d:x<y;·exact Z (if_pos d) (.inl ⟨rfl,rfl⟩)
  ·exact Z (if_neg d) (.inl ⟨rfl,by lia⟩)
theorem GW{a b:Int}(q:Q (.int (if b<a then b else a)) h):qI .min [.int a,.int b] Q h:=q
theorem GY{a b:Int}(q:Q (.int (if a<b then b else a)) h):qI .max [.int a,.int b] Q h:=q
theorem rp{i:Nat}(h:i<3):((12+i:Nat):Int)∈fC:=by rcases(by lia:i=0\/i=1\/i=2) with rfl |rfl |rfl<;>decide
theorem m4{p:Int×Int}{f:Int->Option (Int×Int)}{x:Int}(h:(f x).isSome=true):(aH f t (U p) x).isSome=true:=by
 by_cases c:x=t;·subst c;refine Z (ai.M.aP _ _ _) ?_;rfl
 ·exact Z (ai.M.aI _ _ c) h
theorem WI.u4(W:WI l A cs M S Ub es){i:Nat}{a b x y:Int}(H:M.cd[i]? =U (a,b))(nx:aj x)(n:aj y)(or:(a=x/\b=y)\/(a=y/\b=x)){g:Int->Option V}(e:g=λz=>(aH S.wd ((12+i:Nat):Int) (U (x,y)) z).map b'):
  WI (l+1) (A.set 46 0 (.dI fC g)) cs M {S with wd:=aH S.wd ((12+i:Nat):Int) (U (x,y))} Ub es:=by
 have w:=W.more;refine⟨W.H.rZ (.set rfl),W.L.Dq e,W.C,W.to,w.el,W.os,W.on,w.sl,W.en,W.si,W.is,λt u v h=>?_,λt h=>m4 (W.sw t h),w.tr,w.nl,λt m=>⟨(W.nu t m).1,m4 (W.nu t m).2⟩,W.hq,W.hc,W.ms,w.wt,W.lv,W.tl,W.eq⟩;have h:aH S.wd ((12+i:Nat):Int) (U (x,y)) t=U (u,v):=h;by_cases c:t=((12+i:Nat):Int)
 ·subst c;rw[ai.M.aP] at h;obtain⟨rfl,rfl⟩:=Lz (KC h)
  refine⟨nx,n,?_⟩;have:=W.is i _ H;clear nx h e n;clear h;rcases or with⟨rfl,rfl⟩ |⟨rfl,rfl⟩
  ·exact .inl this
  ·exact .inr this
 ·rw[ai.M.aI _ _ c] at h;exact W.wd t u v h
theorem Au{a:Type}{f:Int->Option a}{q w:a}(e:aH f t (U q) z=U w):(z=t/\q=w)\/(z≠t/\f z=U w):=by
 by_cases c:z=t;·exact .inl ⟨c,KC ((ai.M.aP f t (U q)).symm.trans (c▸e))⟩
 ·exact .inr ⟨c,(ai.M.aI _ _ c).symm.trans e⟩
theorem Cw{a:Type}{l:List a}{x p:a}{i:Nat}(e:(l++[x])[i]? =U p):l[i]? =U p\/(i=l.length/\x=p):=by
 refine KS (OF i l.length) (λlt=>.inl ((Mb lt).symm.trans e)) λg=>?_
 ·have e:[x][i-l.length]? =U p:=(Lj g).symm.trans e
  have lt:=(LC.mp e).1;rw[List.length_singleton] at lt;have E:i=l.length:=L2 (Nat.sub_eq_zero_iff_le.mp (Nat.lt_one_iff.mp lt)) g;rw[E,MY] at e;exact .inr ⟨E,KC e⟩
theorem Ch{a:Type}{l:List a}{x:a}:(l++[x])[l.length]? =U x:=by
 (refine Z (Lj (KX _)) (Z (MY _) ?_));rfl
theorem H2{f:Int->Option (Int×Int)}{l:List (Int×Int)}{q p:Int×Int}{t z:Int}(s:∀z p,f z=U p->∃i:Nat,z=((12+i:Nat):Int)/\l[i]? =U p)(E:((12+l.length:Nat):Int)=t)(e:aH f t (U q) z=U p):∃i:Nat,z=((12+i:Nat):Int)/\(l++[q])[i]? =U p:=
 (Au e).elim (λw=>⟨l.length,w.1.trans E.symm,w.2▸Ch⟩) λw=>(s z p w.2).elim λi v=>⟨i,v.1,(Mb (LC.mp v.2).1).trans v.2⟩
theorem G5{f:Int->Option (Int×Int)}{l:List (Int×Int)}{q:Int×Int}{t:Int}{i:Nat}(I:∀(i:Nat) p,l[i]? =U p->f ((12+i:Nat):Int)=U p)(n:f t=KF)(E:((12+l.length:Nat):Int)=t)(e:(l++[q])[i]? =U p):aH f t (U q) ((12+i:Nat):Int)=U p:=
 (Cw e).elim (λe=>(ai.M.aI _ _ λc=>al (n.symm.trans (c▸I i p e))).trans (I i p e)) λw=>by exact Z w.1 (Z E (hR w.2 (ai.M.aP _ _ _)))
theorem GA{f w:Int->Option (Int×Int)}{t a x y u v:Int}(W:∀t a b,w t=U (a,b)->aj a/\aj b/\(f t=U (a,b)\/f t=U (b,a)))(F:f t=KF)(n:aj a)(N:aj b)(or:(a=x/\b=y)\/(a=y/\b=x))(e:aH w t (U (x,y)) z=U (u,v)):
  aj u/\aj v/\(aH f t (U (a,b)) z=U (u,v)\/aH f t (U (a,b)) z=U (v,u)):=by
 clear F;rcases Au e with⟨rfl,E⟩ |⟨c,e⟩
 ·obtain⟨rfl,rfl⟩:=Lz E
  refine Z (ai.M.aP _ _ _) ?_;clear e E;rcases or with⟨rfl,rfl⟩ |⟨rfl,rfl⟩
  ·exact⟨n,N,.inl rfl⟩
  ·exact⟨N,n,.inr rfl⟩
 ·exact Z (ai.M.aI _ _ c) (W z u v e)
theorem sV{f w:Int->Option (Int×Int)}{z:Int}{p q:Int×Int}(s:(f z).isSome=true->(w z).isSome=true)(e:(aH f t (U p) z).isSome=true):(aH w t (U q) z).isSome=true:=by
 by_cases c:z=t;·(refine Z c ?_;rw[ai.M.aP]);rfl
 ·rw[ai.M.aI _ _ c] at e⊢;exact s e
theorem WI.new(W:WI l A cs M S Ub es)(C:l<3){t a b x y:Int}(j:((12+M.cd.length:Nat):Int)=t)(n:aj a)(B:aj b)(or:(a=x/\b=y)\/(a=y/\b=x))(H:ah A' N)(L:ed A' cs {S with wd:=aH S.wd t (U (x,y))})(T:lu (eI (M.iL (M.cd++[(a,b)])) t a b) t N){k:V}{E:List (bQ×V)}
  (os:A'.o 34 0=U (.list (Ub++[k])))(J:A'.o 36 0=U (.dN E))(K:Fg E (M.cd++[(a,b)])):WI (l+1) A' cs N {S with wd:=aH S.wd t (U (x,y))} (Ub++[k]) E:=by
 have Q:t∈fC:=hR j (rp (KU W.el C));have s:M.aC t=none:=by
  induction c:M.aC t with
  |none=>rfl
  |some p=>refine aD (W.si t p c) λi D o=>?_;have:=(LC.mp o).1;omega
 have G:cN [] (M.iL (M.cd++[(a,b)])) [] []:=W.C.cg rfl rfl rfl rfl rfl rfl rfl rfl rfl;have r:=jn G;have R:=v' (M:=iI (M.iL (M.cd++[(a,b)])) t a b) (t:=t) n (r a n);have w0:oM (iI (M.iL (M.cd++[(a,b)])) t a b) (λy=>((iI (M.iL (M.cd++[(a,b)])) t a b).bK y).length)<=2*l:=W.wt;have I:oM (eI (M.iL (M.cd++[(a,b)])) t a b) (λy=>((eI (M.iL (M.cd++[(a,b)])) t a b).bK y).length)<=2*l+2:=KB (v' (M:=lB (iI (M.iL (M.cd++[(a,b)])) t a b) t a) (t:=t) B (r b B)) (bM (ip _ _ _) 0x1137123282313711391392823 rfl R w0);have P:∀{x p},M.aC x=U p->aH M.aC t (U (a,b)) x=U p:=λ{x p} e=>by exact Z (ai.M.aI _ _ λc=>by replace e:=s▸c▸e;exact al e) e
 have F:df [] (eI (M.iL (M.cd++[(a,b)])) t a b) [] []:=by
  refine⟨(uh G Q n B s (bM (gF _ _) 0x763231138331371232823 rfl C I)),⟨λe=>?_,λm x y h=>(nomatch h)⟩,λz c e=>?_⟩
  ·have h7:=r 7 (by decide);have h8:=r 8 (by decide)
   have e:M.Y 7=M.Y 8:=e;replace e:=(h8:M.Y 8=8)▸(h7:M.Y 7=7)▸e;exact absurd e (by decide)
  ·refine aD (W.to z c e) λp D o=>?_
   exact⟨p,P D,o⟩
 refine xb (F.jV T) λf X c1 q1 q d r1 v1=>?_;have sN:N.aC=aH M.aC t (U (a,b)):=X.aC;have g:N.cd=M.cd++[(a,b)]:=X.cd;have q:N.a4.length<=M.a4.length+1:=q;have d:N.ak.length<=(M.ak++[e2.pR t a b]).length+1:=d;rw[be] at d;have a1:=W.nl;have a2:=W.tr;have a3:=W.el;refine⟨H,L,f.C,f.to,by(refine Z g (Z (be _) ?_));exact bM (gF _ _) 0x113711381378 rfl a3,os,J,by refine Z (be _) ?_;exact Ld W.sl,by refine Z g ?_;exact K,λz p e=>Z g (H2 W.si j (hR sN e)),λi p e=>Z sN (G5 W.is s j (hR g e)),λz u v e=>Z sN (GA W.wd s n B or e),λz e=>sV (W.sw z) (hR sN e),bM (ip _ _ _) 0x712113823c3137113113913912823c3 rfl d a2,bM (ip _ _ _) 0x7113813711391398 rfl q a1,λz m=>?_,q1.trans W.hq,c1.trans W.hc,X.am.trans W.ms,?_,W.lv,W.tl,W.eq⟩;·exact(X.a4 z m).elim (λh=>⟨(W.nu z h).1,m4 (W.nu z h).2⟩) λw=>⟨w.2.1,sV (W.sw z) w.2.2⟩
 ·have:oM N (λt=>(N.bK t).length)=oM (eI (M.iL (M.cd++[(a,b)])) t a b) (λy=>((eI (M.iL (M.cd++[(a,b)])) t a b).bK y).length):=by unfold oM;exact Z r1 (Z v1 rfl)
  exact Z this (bM (gF _ _) 0x721138231371232823 rfl I)
noncomputable def HL:List St:=[
    .a8 (.var 8) (.az (.var 3) "make" [.aE (.str "="),.aA [.bi .min [.var 6,.var 7],.bi .max [.var 6,.var 7]],.c5 "BOOL",.aE (.int 0)]),
    .a8 (.sub (.sub (.var 1) (.aE (.str "watched"))) (.var 8)) (.aA [.var 6,.var 7]),
    .expr (.az (.var 2) "watch" [.var 8])]
theorem FT{C D x8:Option V}{P:PS}(R:AR h A)(W:WI l A cs M S Ub es)(L:l<3)(X:aj x)(G:aj y)(ne:x≠y)(q:∀h' A' M' S' k I z,AR h' A'->WI (l+1) A' cs M' S' k I->S'.spot=S.spot->fv A A'->P .next [C,U (.ref (A.R 42 0)),U Me,U Bk,U (.fl (ae ar)),D,U (.int x),U (.int y),z] h'):
  St.bh G1 (lw (n+6)) HL [C,U (.ref (A.R 42 0)),U Me,U Bk,U (.fl (ae ar)),D,U (.int x),U (.int y),x8] P h:=by
 refine cR (Fw x y) λa b ea eb or=>?_;have nn:aj a/\aj b/\a≠b:=by
  clear eb ea q;rcases or with⟨rfl,rfl⟩ |⟨rfl,rfl⟩
  ·exact⟨X,G,ne⟩
  ·exact⟨G,X,λe=>ne e.symm⟩
 refine cH nn λac nb J=>aY (ab rfl (o0 R W.H rfl gh (av (aS (av (dC (av (lh (av (aB rfl (av (aB rfl (ax (GW (av (lh (av (aB rfl (av (aB rfl (ax (GY (ax ⟨(by decide:2<=aN),Z ea (Z eb (av (ab Ej (av (aS (ax ?_))))))⟩)))))))))))))))))))))));have B:=W.H.H0 W.os W.on (by have:=W.el;exact bM (gF _ _) 0x7144131138331378 rfl L this) (by have:=W.sl;exact bM (gF _ _) 0x76441311383313718c3 rfl L this) (by have:=W.en.l;have:=W.el;lia);have hk:gx (.aA [.str "=",.aA [.int a,.int b],.int 0,.int 0])=U ⟨"=",[a,b],0,.int 0⟩:=rfl;have ko:(hS M.cd.length).length=12+M.cd.length:=by unfold hS;refine Z KH (Z NR ?_);rfl
 have ka:(eM M.cd).length=12+M.cd.length:=by unfold eM;(refine Z KH (Z (KE _) ?_));rfl
 have kd:(dV M.cd.length).length=12+M.cd.length:=by unfold dV;refine Z KH (Z NR ?_);rfl
 have d:=W.el;have K:=W.sl;have aa:=W.en.l;induction c:bc es ⟨"=",[a,b],0,.int 0⟩ with
 |some v=>
  refine aD (W.en.k a b v c) λi H E=>?_;subst E;have i3:i<3:=by have:=(LC.mp H).1;exact bM (ip _ _ _) 0x1137331311383313981311379 rfl L d this
  refine AY R B hk c (by lia) ⟨aX rfl,aY (dC (av (aB rfl (av (aB rfl (ax ⟨(by decide:2<=aN),gE (eT (aB rfl (aS (dm R W.L.bJ (i:="watched") rfl (aB rfl (cD R W.L.wd (rp i3) λh2 r=>?_))))))⟩))))))⟩;have w:=W.u4 H X G or (dq (U (x,y)));exact e1 (ab rfl (bX r w.H rfl ql (a1 rfl (xg r w.H (w.is i _ H) (nx (q _ _ _ _ _ _ _ r w rfl ⟨rfl,rfl,rfl⟩))))))
 |none=>
  refine kp R B hk c (Z ko (bM (gF _ _) 0x11317c3644131138331378 rfl L d)) (Z ka (bM (gF _ _) 0x11317c3644131138331378 rfl L d)) (bM (gF _ _) 0x11376441311383313718c3 rfl L K) (Z kd (bM (gF _ _) 0x11317c3644131138331378 rfl L d)) (bM (ip _ _ _) 0x113764413113833139813719b3 rfl L d aa) λh1 u R1 m F1 s _=>⟨aX rfl,?_⟩;have L1:=W.L.fr (F1.bU IC);have o:u.R 42 0=A.R 42 0:=congrArg (cq.mk 42 0) (s 42 0);have o6:=m.o6;rw[ko] at o6⊢;generalize j:((12+M.cd.length:Nat):Int)=t at*;have ht:t∈fC:=hR j (rp (by exact KU ‹_› ‹_›));refine hR o (aY (dC (av (aB rfl (av (aB rfl (ax ⟨(by decide:2<=aN),gE (eT (aB rfl (aS (dm R1 L1.bJ (i:="watched") rfl (aB rfl (cD R1 L1.wd ht λh2 r=>?_))))))⟩)))))));have H2:ah (u.set 46 0 (.dI fC (fd (λz=>(S.wd z).map b') t (U (b' (x,y)))))) (M.iL (M.cd++[(a,b)])):=(W.H.Hx F1 s rfl m.o2 m.o3 m.o5:ah u (M.iL (M.cd++[(a,b)]))).rZ (.set rfl);have C1:cN [] (M.iL (M.cd++[(a,b)])) [] []:=W.C.cg rfl rfl rfl rfl rfl rfl rfl rfl rfl;have H:(M.iL (M.cd++[(a,b)])).cd[M.cd.length]? =U (a,b):=by
   refine(?_ :(M.cd++[(a,b)])[M.cd.length]? =_)
   (refine Z (Lj (KX _)) (Z (MY _) ?_));rfl
  have hs:M.aC t=KF:=by
   induction c:M.aC t with
   |none=>rfl
   |some p=>refine aD (W.si t p c) λi h1 h2=>?_;have:=(LC.mp h2).1;lia
  have hw:∀x,aj x->(M.bK x).length<=100:=λx nx=>by have:=lg (f:=λt=>(M.bK t).length) nx (jn W.C x nx);have:=W.wt;lia
  have tr:=W.tr;have nl:=W.nl;have wn:=xp (n:=n+1) (Q:=λv h=>St.bh G1 (lw (n+6)) [] [C,U (.ref (u.R 42 0)),U Me,U Bk,U (.fl (ae ar)),D,U (.int x),U (.int y),U (.int t)] P h) r H2 C1.FQ (jn C1) H (KU ‹_› ‹_›) ac nb J (Z j hs) hw (((bM (gF _ _) 0x7003e852311383313712823c3 rfl L tr):M.ak.length<=1000)) (((bM (gF _ _) 0x7003e85131138331378 rfl L nl):M.a4.length<=1000)) W.hq (λh3 A3 N af H3 T F=>by replace T:=j▸T;exact nx (Z o (q _ _ _ _ _ _ _ af (W.new L j ac nb or H3 ((L1.Dq (g:=fd (λz=>(S.wd z).map b') t (U (b' (x,y)))) (dq (U (x,y)))).fr (F.bU na)) T ((F 34 0 rfl).1.trans m.o4) ((F 36 0 rfl).1.trans o6) (hR j W.en.add)) rfl ⟨(cJ F rfl).trans (congrArg (cq.mk 40 0) (s 40 0)),(cJ F rfl).trans (congrArg (cq.mk 41 0) (s 41 0)),(cJ F rfl).trans (congrArg (cq.mk 42 0) (s 42 0))⟩)));replace wn:=j▸wn;exact e1 (ab rfl (bX r H2 rfl ql (a1 (v:=V.int t) rfl wn)))
noncomputable def Ge(A:AH)(x x6 x7 x8:Option V):aV:=[U (.ref (A.R 40 0)),U (.ref (A.R 42 0)),U Me,U Bk,U (.fl (ae ar)),x,x6,x7,x8]
theorem uy(s:fv A B):Ge A x x6 x7 x8=Ge B x x6 x7 x8:=by unfold Ge;exact Z s.a (Z s.c rfl)
noncomputable def Jg:List St:=match ha.body.drop 1 with
 |.for _ _ b::_=>b
 |_=>[]
inductive Js(A0:AH)(cs:List Int)(l:List V)(J:aV)(h:Hp):Prop
 |mk (A:AH) (i:Nat) (M:Hs) (S:Ls) (Ub:List V) (es:List (bQ×V)) (x x6 x7 x8:Option V) (H:i<=3) (e:l=((LP 3).map λ(i:Nat)=>V.int i).drop i) (d':J=Ge A x x6 x7 x8) (R:AR h A) (W:WI i A cs M S Ub es) (p:S.spot=1+2*i) (s:fv A0 A)
theorem Jx{P:PS}(R:AR h A)(W:WI l A cs M S Ub es)(L:l<3)(p:S.spot<=100)
  (q:∀h' A' m S' s e j k o,AR h' A'->WI (l+1) A' cs m S' s e->S'.spot=S.spot+2->fv A A'->P .next (Ge A' (U (.int l)) j k o) h'):
  St.bh G1 (lw (n+6)) Jg (Ge A (U (.int l)) x6 x7 x8) P h:=by
 refine aY (dC (av (eT (aB rfl (w_call (av (aB rfl (av (aS (ax (WI.vv R W (KB p (by decide)) λv x x9 H G u B a=>ab (f0 x x9).1 (Z (uy a) (av (eT (aB rfl (w_call (av (aB rfl (av (aS (ax (WI.vv u B (KB (Ld p) (by decide)) λy d f I J r w b=>ab (f0 d f).1 (ax ⟨(by decide:2<=aN),rfl,aX rfl,aX rfl,Z (uy b) ?_⟩)))))))))))))))))))))));refine fG (iu (aB rfl (aB rfl ?_)));by_cases c:3+v=3+y;·exact oY c (nx (nx (q _ _ _ _ _ _ (U (.int (3+v))) (U (.int (3+y))) x8 r w.more rfl (a.trans b))))
 ·refine mx c (FT (n:=n) r w L (f0 x x9).2 (f0 d f).2 c λK N Q T t E z C D F i=>nx ?_)
  have g:=q _ _ _ _ _ _ (U (.int (3+v))) (U (.int (3+y))) z C D F ((a.trans b).trans i);rw[<-uy i] at g;exact g
theorem CU(R:AR h A)(W:WI 0 A cs M S Ub es)(p:S.spot=1)(q:∀h' A' o S' t E,AR h' A'->WI 3 A' cs o S' t E->S'.spot=7->fv A A'->Q .none h'):lw (n+7) "_law_watched" [.ref (A.R 40 0),.ref (A.R 42 0),Me,Bk] Q h:=by
 refine ab oZ ⟨rfl,aY (eT (aB rfl (aS (dm R W.L.bJ (i:="some") rfl ⟨aX rfl,rD (lh (av (aS (ax ⟨by decide,by decide,ab (a:=It.bp ((LP 3).map λ(i:Nat)=>V.int i)) rfl (iV (Js A cs) ?_ ?_ _ ⟨A,0,M,S,Ub,es,_,_,_,_,K3 _,rfl,rfl,R,W,p,.refl⟩)⟩))))⟩))))⟩
 ·intro v l J u K I k
  obtain⟨x,i,z,B,T,c,C,y,j,m,H,e,d',r,w,s,d⟩:=I;have g:=f1 e.symm;subst d';exact⟨aX rfl,Z g.2.1 (Jx (n:=n) r w g.1 (KB (KQ s) (KB (LO (Nt 2 H) 1) (by decide))) λh4 D F G b f y j m L N P X=>k _ _ ⟨D,i+1,F,G,b,f,_,_,_,_,g.1,g.2.2,rfl,L,N,P.trans (congrArg (·+2) s),d.trans X⟩)⟩
 ·intro J u I
  obtain⟨x,i,z,B,T,c,C,y,j,m,H,e,d',r,w,s,d⟩:=I;obtain rfl:i=3:=L2 H (pt e);exact nx (q _ _ _ _ _ _ r w s d)
theorem WI.start(W:WI 3 A cs M S Ub es):LB 0 A cs M S ⟨M,[],[]⟩/\LF M S ⟨M,[],[]⟩:=by
 have H:=jn W.C;have c:=hP M;refine⟨⟨W.H,W.L,rfl,by refine Z W.lv ?_;exact .base rfl W.ms,⟨?_,?_,?_,?_⟩,by have:=W.nl;lia,W.hq,W.nu,λt _ _=>W.tl t,λt p e=>(by rw[W.tl] at e;exact al e),λt p e=>(by rw[W.eq] at e;exact al e),W.wd,W.sw,λt p e=>(by rw[W.tl] at e;exact al e),K3 _,λ_ m=>(nomatch m),λ_ m=>(nomatch m),by refine Z W.lv ?_;decide⟩,⟨⟨W.C,⟨λe=>?_,λm x y h=>(nomatch h)⟩,W.to⟩,W.hc,⟨λt p e=>(by rw[W.tl] at e;exact al e),λt p e=>(by rw[W.eq] at e;exact al e)⟩⟩⟩
 ·refine(?_ :M.ak.length+20*cls M<=300+20*0)
  have:=W.tr;lia
 ·refine(?_ :0+20*cls M<=300)
  omega
 ·refine((Z W.hq (?_ :0+4*cls M<=40)):M.aw.length+4*cls M<=40);lia
 ·refine((Z W.ms ?_):M.am.length<=1000);decide
 ·simp only[H 7 (by decide),H 8 (by decide)] at e
  exact absurd e (by decide)
theorem wu(k:Nat)(t:Int){K:List V}{l:List String}(R:AR h A)(c:∀Q h,dF K vs Q h=bB (lp K) λl=>l.Nodup/\l.length=vs.length/\l.length<=15/\∃k t,Q (.ref ⟨k,t,h.n⟩) (h.new k t (.dS (l.zip vs))))(e:lp K=U l)(n:l.Nodup)(b:l.length=vs.length)(L:l.length<=15)
  (q:∀h',AR h' (A.new k t A.nn (.dS (l.zip vs)))->Q (.ref ⟨k,t,A.nn⟩) h'):dF K vs Q h:=by
 refine Z (c _ _) (ab e ⟨n,b,L,k,t,?_⟩);have e:=R.2;have:=R.new k t (x:=.dS (l.zip vs)) (a:=.dS (l.zip vs)) rfl;replace this:=e▸this;exact Z e (q _ this)
theorem zC{K:String}{es:List ai.Ex}{vs:List V}(k:Nat)(t:Int)(R:AR h A)(H:∀P:List V->Hp->Prop,P vs h->ai.Ex.bh G1 C es J P h)(q:∀h',AR h' (A.new k t A.nn (.dS []))->C (K++".__init__") (.eQ K ⟨k,t,A.nn⟩::vs) (DC (.eQ K ⟨k,t,A.nn⟩) Q) h'):
  ai.Ex.wp G1 C (.new K es) J Q h:=by
 refine H (λvs h=>∃k t,C (K++".__init__") (.eQ K ⟨k,t,h.n⟩::vs) (λv h'=>v=.none/\Q (.eQ K ⟨k,t,h.n⟩) h') (h.new k t (.dS []))) ⟨k,t,?_⟩;have e:=R.2;have:=R.new k t (x:=.dS []) (a:=.dS []) rfl;replace this:=e▸this;exact Z e (q _ this)
theorem At{l:List V}(e:DK.vals J k=U l)(q:ai.Ex.bh G1 C vs J (DZ Q l) h):ai.Ex.wp G1 C (.dict k vs) J Q h:=ab e q
theorem Bz{es:List ai.Ex}(q:ai.Ex.bh G1 C es J (jJ Q) h):ai.Ex.wp G1 C (.list es) J Q h:=q
theorem nB:"Bank"++".__init__"="Bank"++"."++"__init__":=by decide+kernel
theorem nC:"Congruence"++".__init__"="Congruence"++"."++"__init__":=by decide+kernel
noncomputable def A0:AH:=⟨λ_ _=>0,λ_ _=>KF,λ_ _=>0,0⟩
theorem R0:AR Hp.jA A0:=⟨λk t a e=>(nomatch e),rfl⟩
noncomputable def S0:Ls:=⟨1,[[]],λ_=>KF,λ_=>KF,λ_=>KF,0⟩
theorem ek.dr{fa fr ops S s d:List V}{k:Nat}(G:ek A k nm fa fr ops S s d es):A.o 31 0=U (.dS (dr A)):=by
 have e:Ee k=ai.L1.dr A:=by
  have g:∀{f:String} {v w:V},bc (Ee k) f=U v->bc (Ee k) f=U w->v=w:=λa b=>by rw[a] at b;exact KC b
  unfold ai.L1.dr;simp only[<-(g (v:=V.ref ⟨32,0,k+3⟩) rfl G.B.f2),<-(g (v:=V.ref ⟨33,0,k+4⟩) rfl G.B.f3),<-(g (v:=V.ref ⟨34,0,k+5⟩) rfl G.B.f4),<-(g (v:=V.ref ⟨35,0,k+6⟩) rfl G.B.f5),<-(g (v:=V.ref ⟨36,0,k+7⟩) rfl G.B.f6)];refine(?_ :_=[("sort_names",_),("sort_widths",_),("fun_names",V.ref ⟨37,0,A.st 37 0⟩),("fun_args",V.ref ⟨38,0,A.st 38 0⟩),("fun_results",V.ref ⟨39,0,A.st 39 0⟩),_,_,_,_,_,_,_,_]);simp only[G.s7,G.s8,G.s9];rfl
 exact Z G.B.self (Z e rfl)
theorem Hm{N:List Int}{P:PS}(q:∀h A (v:Nat),AR h A->aG A (λ_=>[]) M0->A.o 40 0=U (.dS [("cells",.fl (ae (N.take 50))),("spot",.int (1:Nat))])->A.o 41 0=U (.dI ar λt=>(ai.M.arg t).map V.int)->A.o 34 0=U (.list yn)->A.o 36 0=U (.dN DV)->v<=9->
   St.bh G1 (lw (n+9)) (lK.body.drop 4) [U (.fl (ae N)),U (.ref (A.R 40 0)),U Bk,U (.int v),U (.fl (ae ar)),U (.ref (A.R 41 0)),U Me,KF,KF,KF,KF,KF,KF,KF,KF,KF,KF] P h):
  St.bh G1 (lw (n+9)) lK.body [U (.fl (ae N)),KF,KF,KF,KF,KF,KF,KF,KF,KF,KF,KF,KF,KF,KF,KF,KF] P Hp.jA:=by
 have C:(N.take 50).length<=50:=Q2 _ _;refine aY (At rfl (av (lh (av (wg (aB rfl (aS ⟨by decide,by decide,?_⟩)))))));have E:(ae N).take (50:Int).toNat=ae (N.take 50):=by unfold ae;refine Z Nv ?_;rfl
 refine Z E ?_;have L:(ae (N.take 50)).length<=aN:=Z (bb _) (KB C (by decide));refine bz L (ax (yN (bz L (av (aS (ax (wu 40 0 (l:=["cells","spot"]) R0 (λ_ _=>rfl) rfl (by decide) rfl (by decide) λh1 j=>⟨aX rfl,aY (dC (av (zC 31 0 j (λ_ p=>p) λh2 k=>Z nB (yx (A:=(A0.new 40 0 0 _).new 31 0 1 _) (n:=n+7) k rfl rfl λh3 a u B F x S y z D G H=>⟨rfl,?_⟩))))⟩)))))));have r:(⟨40,0,A0.nn⟩:cq)=a.R 40 0:=(cJ F rfl).symm;refine Z r (av (eg (aS (w_call (av (aB rfl (av (aS (ax (DU (n:=n+8) u C ((F 40 0 rfl).1:a.o 40 0=U (.dS [("cells",.fl (ae (N.take 50))),("spot",.int (0:Nat))])) (K3 _) (w:=9) (by decide) λv b v9 h4 I=>ot (bZ (by decide) (by decide)) (bZ b (by lia)) (ax (FR (by decide:2<=aN) rfl (aX rfl) (aX rfl) (cV (Qy b) λm e=>?_)))))))))))));clear b;subst e;refine Z ((by lia:(1+(m:Int))=((1+m:Nat):Int))) ?_;have J:ek a 2 [] [] [] BZ [.aA [],.aA [],.aA []] [.int 0,.int 0,.int 0] [.int 0,.int 0,.int 0] Ih:=⟨B,S,y,z,D,G,H⟩;refine aY (w_call (av (aB rfl (ax (Ha (n:=n+5) I (J.fr (.set rfl)) λh5 c nm fa fr K g o s i M=>⟨rfl,aX rfl,aX rfl,aY (zC 30 0 K (λ_ p=>a1 rfl p) λh6 R=>Z nC ?_)⟩)))));rw[(M.trans (congrArg (·+2) (x:a.nn=10)):c.nn=sN)] at R⊢;refine yf (A:=c.new 30 0 sN (.dS [])) (n:=n+8) R rfl rfl g.B.bn g.dr g.B.o2 g.B.o3 g.B.o5 λh7 d Q T f=>⟨rfl,aX rfl,?_⟩;have W:d.R 40 0=a.R 40 0:=congrArg (cq.mk 40 0) ((f 40 0 (by decide)).2.trans (i 40 0 rfl).2.1);have X:d.R 41 0=c.R 41 0:=congrArg (cq.mk 41 0) (f 41 0 (by decide)).2;exact hR W (hR X (q _ d (1+m) Q T ((f 40 0 (by decide)).1.trans (i 40 0 rfl).1) ((f 41 0 (by decide)).1.trans o) ((f 34 0 (by decide)).1.trans g.B.o4) ((f 36 0 (by decide)).1.trans g.B.o6) (by lia)))
theorem ed.fo(L:ed A cs S)(f:Fo A A'):ed A' cs S:=by
 have r:∀k t,Hd k=true->A'.R k t=A.R k t:=λk t e=>congrArg (cq.mk k t) (f k t e).2;have E:aO A' S.a0.length=aO A S.a0.length:=Mm λi _=>congrArg V.ref (r 45 i rfl);have a:zi A' S.g=zi A S.g:=by unfold zi;simp only[r 41 0 rfl,r 44 0 rfl,r 46 0 rfl,r 47 _ rfl,r 48 _ rfl]
 exact⟨L.cl,(f 40 0 rfl).1.trans L.mX,(f 41 0 rfl).1.trans L.gK,(f 42 0 rfl).1.trans (L.bJ.trans (Z a rfl)),(f 44 0 rfl).1.trans (L.a0.trans (Z E rfl)),λi l e=>(f 45 i rfl).1.trans (L.la i l e),(f 46 0 rfl).1.trans L.wd,(f 47 _ rfl).1.trans L.tl,(f 48 _ rfl).1.trans L.eq⟩
theorem Kr(H:ah A M9)(L:ed A cs S0)(o:A.o 34 0=U (.list yn))(d:A.o 36 0=U (.dN DV)):WI 0 A cs M9 S0 yn DV:=by
 have s:M9.aC=λ_=>KF:=rfl;refine⟨H,L,GO,λt c e=>?_,K3 _,o,d,KX _,.nil,λt p e=>?_,λi p e=>?_,λt a b e=>(nomatch e),λt e=>?_,?_,K3 _,λt m=>?_,rfl,rfl,rfl,by decide+kernel,rfl,λ_=>rfl,λ_=>rfl⟩;·replace e:=(rfl:M9.a7=λ_=>KF)▸e;exact al e
 ·replace e:=s▸e;exact al e
 ·replace e:=(rfl:M9.cd=[])▸e;exact al e
 ·replace e:=s▸e;exact aK e
 ·refine Z Bg ?_;decide
 ·replace m:=(rfl:M9.a4=[])▸m;exact(nomatch m)
noncomputable def yA(A:AH):AH:=(((((A.new 45 0 A.nn (.list [])).new 44 0 (A.nn+1) (.list [.ref ⟨45,0,A.nn⟩])).new 46 0 (A.nn+1+1) (.dI fC λ_=>KF)).new 47 0 (A.nn+1+1+1) (.dI fC λ_=>KF)).new 48 0 (A.nn+1+1+1+1) (.dP gw λ_=>KF)).new 42 0 (A.nn+1+1+1+1+1)
 (.dS [("some",.fl (ae ar)),("inner",.ref (A.R 41 0)),("levels",.ref ⟨44,0,A.nn+1⟩),("watched",.ref ⟨46,0,A.nn+1+1⟩),("told",.ref ⟨47,0,A.nn+1+1+1⟩),("equal",.ref ⟨48,0,A.nn+1+1+1+1⟩)])
theorem u6:Fr pH A (yA A):=.trans (.trans (.trans (.trans (.trans (.new rfl) (.new rfl)) (.new rfl)) (.new rfl)) (.new rfl)) (.new rfl)
theorem BS(L:cs.length<=50)(of:A.o 40 0=U (.dS [("cells",.fl (ae cs)),("spot",.int (1:Nat))]))(o:A.o 41 0=U (.dI ar λt=>(ai.M.arg t).map V.int)):ed (yA A) cs S0:=by
 refine⟨L,of,o,rfl,rfl,λi l e=>?_,rfl,rfl,rfl⟩;induction i using MG with
 |zero=>(replace e:=KC e;subst e);rfl
 |succ i=>exact(nomatch i)<;>cases e
theorem D0(h:LA k 42=true):(yA A).R k 0=A.R k 0:=by simp only[MZ] at h;have e:∀{B:AH} {j n:Nat} {x:AO},k≠j->(B.new j 0 n x).R k 0=B.R k 0:=λ{B j n x} c=>congrArg (cq.mk k 0) (if_neg λq=>c q.1);unfold yA;exact Z (e (by omega)) (Z (e (by omega)) (Z (e (by omega)) (Z (e (by omega)) (Z (e (by omega)) (Z (e (by omega)) rfl)))))
theorem GI{P:PV}{v:Nat}{x:V}(R:AR h A)(H:aG A (λ_=>[]) M0)(L:cs.length<=50)(of:A.o 40 0=U (.dS [("cells",.fl (ae cs)),("spot",.int (1:Nat))]))(o:A.o 41 0=U (.dI ar λt=>(ai.M.arg t).map V.int))(d:A.o 34 0=U (.list yn))(g:A.o 36 0=U (.dN DV))(i:v<=9)(q:∀h,P (.bool true) h):
  St.bh G1 (lw (n+9)) (lK.body.drop 4) [U x,U (.ref (A.R 40 0)),U Bk,U (.int v),U (.fl (ae ar)),U (.ref (A.R 41 0)),U Me,KF,KF,KF,KF,KF,KF,KF,KF,KF,KF] (Fl.cY P) h:=by
 refine aY (At rfl (av (aB rfl (av (aB rfl (av (Bz (av (Bz (ax (gy 45 0 (xs:=[]) R (K3 _) λK j=>ax (gy 44 0 (xs:=[.ref ⟨45,0,A.nn⟩]) j (by refine(?_ :1<=aN);decide) λM m=>?_))))))))))));refine av (d0 (mR 46 0 fC m (by decide) λN p=>av (d0 (mR 47 0 fC p (by decide) λQ u=>av (d0 (wn 48 0 gw u (by decide) λX z=>ax (wu 42 0 (l:=["some","inner","levels","watched","told","equal"]) z (λ_ _=>rfl) rfl (by decide) rfl (by decide) λB a=>⟨aX rfl,?_⟩)))))));have a:AR B (yA A):=a;refine Z (((D0 rfl).symm:A.R 40 0=(yA A).R 40 0)) (Z (((D0 rfl).symm:A.R 41 0=(yA A).R 41 0)) (EW (n:=n+4) a (H.IX u6:aG (yA A) (λ_=>[]) M0) λh7 c y C D f=>?_));have r:∀k,Hd k=true->c.R k 0=(yA A).R k 0:=λk e=>congrArg (cq.mk k 0) (f k 0 e).2;have W:=Kr D ((BS L of o:ed (yA A) cs S0).fo f) ((f 34 0 rfl).1.trans ((u6 34 0 rfl).1.trans d:(yA A).o 34 0=U (.list yn))) ((f 36 0 rfl).1.trans ((u6 36 0 rfl).1.trans g:(yA A).o 36 0=U (.dN DV)));refine hR (r 40 rfl) (hR (r 41 rfl) (e1 (w_call (av (aB rfl (av (aB (v:=.ref (c.R 42 0)) (congrArg (λx=>U (V.ref x)) (r 42 rfl).symm) (av (aB rfl (av (aB rfl (ax (CU (n:=n+2) C W rfl λF b M8 S8 T Kb G w s S=>ay w.start λI J=>?_)))))))))))));have E:(⟨42,0,A.nn+1+1+1+1+1⟩:cq)=b.R 42 0:=by refine Z S.c (Z (r 42 rfl) ?_);rfl
 exact hR S.a (hR S.b ((Z E (Ix G I J (by have:=w.nl;exact bM (kT _) 0x7a313733 rfl this) (bM (kT _) 0x7a313773 rfl (KQ s)) i q)):St.bh G1 (lw (n+9)) (lK.body.drop 7) [U x,U (.ref (b.R 40 0)),U Bk,U (.int v),U (.fl (ae ar)),U (.ref (b.R 41 0)),U Me,U (.ref ⟨42,0,A.nn+1+1+1+1+1⟩),y,KF,KF,KF,KF,KF,KF,KF,KF] _ F))
end
theorem HW(N:List Int)(_:N.length<=63):∃n,n<=60/\a5 (G0 xr) (Gg bu) n "law" [.fl (ae N)] (λv _=>v=.bool true) Hp.jA:=by exact⟨10,by decide,ab Gk ⟨rfl,Hm (n:=0) λh A v R H of o a b V=>GI (n:=0) R H (Q2 _ _) of o a b V λ_=>rfl⟩⟩
end ai.L1
end Internal
theorem PySem.Challenge.cw_no0014_01_holds : PySem.Challenge.rw_no0014_01.Holds :=
  Internal.ai.L1.J' Internal.ai.L1.HW
