import PyProof.Rows.All
import Wide.All
import OpenK.AllK
import Wide.FinOn
import Lean
import PySem.Challenge.RW_no0027_01
set_option Elab.async false
set_option tactic.hygienic false
set_option backward.match.sparseCases false
set_option genCtorIdx false
set_option genSizeOf false
set_option genInjectivity false
set_option autoImplicit true
set_option synthInstance.maxSize 9999
set_option maxHeartbeats 0
set_option maxRecDepth 100000
set_option linter.all false
set_option compiler.extract_closed false
set_option compiler.small 0
set_option compiler.maxRecInline 0
open And renaming intro->xk
open Array renaming size->aX,toList->cx,getElem?_toList->hI,length_toList->jk,getElem?_eq_getElem->kL,toList_map->nA,getElem?_eq_none->tA,toList_push->xl,toList_append->Ei,all_eq_true'->RT,any_toList->RU,contains_iff_mem->RV,perm_iff_toList_perm->RW,size_zip->RX,toList_reverse->RY
open Array.Perm renaming refl->T5
open Bool renaming true->an,false->ax,and_eq_true_iff->eS,and_eq_true->iK,not_eq_true'->kM,eq_iff_iff->nB,false_eq_true->nC,false_ne_true->nD,eq_false_iff->oT,or_eq_true->oU,noConfusion->tB,false_or->Ej,rec->Ek,true_and->RZ
open Char renaming toNat->El
open Classical renaming em->eo,byContradiction->jl,not_not->Em
open Decidable renaming decide->a0,not_not->oV
open Eq renaming trans->bx
open Except renaming ok->fJ,error->jX
open Exists renaming elim->bD
open False renaming elim->be
open ForInStep renaming yield->R0
open Function renaming comp->R1
open Iff renaming rfl->oW,trans->tC
open Inhabited renaming default->dt
open Int renaming natAbs->ao,toNat->bM,natAbs_neg->du,ofNat_le->eb,le_trans->ey,ofNat_lt->eN,natCast_nonneg->eT,toNat_of_nonneg->eU,neg_neg->fl,natAbs_of_nonneg->gj,le_refl->gz,not_lt->gW,ofNat->ig,le_of_eq->jm,natAbs_pos->jn,le_of_lt->jY,zero_add->nE,add_zero->oX,le_natAbs->oY,ofNat_natAbs_of_nonpos->oZ,lt_of_lt_of_le->qL,not_le->qM,eq_ofNat_of_zero_le->tD,le_antisymm->tE,lt_asymm->tF,lt_iff_le_and_ne->tG,lt_irrefl->xm,lt_mul_ediv_self_add->xn,natAbs_eq->xo,neg_pos->xp,add_le_add_right->En,le_sub_one_of_lt->Eo,lt_or_gt_of_ne->Ep,mul_add->Er,mul_ediv_self_le->Es,natAbs_eq_zero->Et,ne_of_lt->Eu,neg_one_mul->Ev,one_mul->Ew,self_le_toNat->Ex,add_assoc->R2,add_le_add_left->R3,add_nonneg->R4,add_nonpos->R5,emod_nonneg->R6,le_min->R7,lt_of_le_of_lt->R8,lt_trans->R9,min_le_left->Sa,mul_le_mul_of_nonneg_left->Sb,mul_nonneg->Sc,mul_zero->Sd,ne_of_gt->Se,neg_inj->Sf,zero_mul->Sg
open Int.ofNat renaming inj->de
open LawfulBEq renaming eq_of_beq->gk
open List renaming length->Z,mem_cons_self->bu,length_map->bv,length_append->bI,mem_map->bL,getD->bS,cons->bX,nil->bY,Nodup->b0,range->b2,mem_singleton->b9,getElem?_eq_getElem->cl,mem_cons_of_mem->cm,mem_cons->cu,mem_append->cK,toArray->c1,append_nil->dI,mem_append_right->dN,nodup_cons->dO,map_append->dY,mem_of_getElem?->dZ,length_range->ec,mem_range->ed,mem_filter->eq,nodup_nil->fm,getElem?_map->fL,mem_map_of_mem->fM,nodup_append->fN,not_mem_nil->fO,all_eq_true->gl,casesOn->gn,map_map->go,mem_singleton_self->gA,getElem?_eq_none->gX,length_filter_le->gY,getD_eq_getElem?_getD->ih,mem_append_left->ii,append_assoc->iL,dropLast->iM,length_eq_zero_iff->iN,map_cons->iO,pairwise_iff_getElem->iP,pairwise_map->iQ,getElem?_set_ne->jo,getElem?_set_self->jp,lookup_cons->jq,length_set->jZ,getElem_mem->kN,getElem_of_mem->kO,length_cons->kP,map_congr_left->kQ,mem_iff_getElem?->kR,any_eq_true->lF,getElem?_append_left->lG,getElem?_eq_some_iff->lH,length_take->lI,size_toArray->mv,getElem?_range->o0,pairwise_cons->o1,set_set->o2,contains_iff_mem->qP,ext_getElem?->qQ,pairwise_append->qR,set_comm->qS,drop_of_length_le->tJ,find?_cons->tK,mem_flatMap->tL,any_eq_false->xr,countP_cons->xt,countP_cons_of_pos->xu,countP_mono_left->xv,drop_eq_getElem_cons->xw,filter_append->xx,getElem?_set->xy,getElem_eq_getD->xz,isEmpty_iff->xA,isPerm_iff->xB,length_dropLast->xC,length_singleton->xD,map_id'->xE,nil_append->xF,pairwise_singleton->xG,rec->xH,set->xI,countP_cons_of_neg->Ez,dropLast_concat_getLast->EA,drop_length->EB,eq_nil_iff_forall_not_mem->EC,filter_cons_of_neg->ED,filter_cons_of_pos->EE,filter_sublist->EF,forall_mem_cons->EG,perm_middle->EH,any_beq'->Si,countP_congr->Sj,countP_le_length->Sk,dropLast_eq_take->Sl,drop_nil->Sm,eraseIdx_eq_take_drop_succ->Sn,exists_mem_of_ne_nil->So,findIdx?_eq_none_iff->Sp,getElem?_append_right->Sq,getElem?_drop->Sr,getElem?_eq_none_iff->Ss,getElem?_nil->Su,length_drop->Sv,length_eq_one_iff->Sw,length_filterMap_le->Sx,length_take_le'->Sy,length_zip->Sz,map->SA,map_drop->SB,map_fst_zip->SC,map_set->SD,mem_filterMap->SE,pairwise_reverse->SF,range_succ->SG,replicate->SH,reverse_cons->SI,reverse_perm->SJ,take_append_drop->SK,take_nil->SL,take_of_length_le->SM,zip_cons_cons->SN,zip_map'->SO
open List.Nodup renaming length_le_of_subset->hx
open List.Pairwise renaming nil->tH,imp_of_mem->Sh,and->T6,filterMap->T7,imp->T8
open List.Perm renaming length_eq->fK,cons->qN,refl->qO,mem_iff->tI,swap->xq
open Nat renaming le_trans->aH,ne_of_lt->bj,le_refl->b4,lt_succ_self->b7,lt_of_lt_of_le->ci,sub_add_cancel->cy,le_succ->cO,lt_of_le_of_lt->cX,succ->di,zero->dv,lt_succ_of_lt->er,blt->e6,succ_le_succ->fP,le_of_lt->f4,lt_irrefl->f5,lt_or_ge->f6,zero_le->f7,ne_of_gt->gB,sub_le->gC,succ_pos->gD,add_le_add_left->iR,min_eq_left->iS,beq->jr,le_add_right->js,le_of_eq->jt,le_succ_of_le->j0,lt_add_of_pos_right->j1,add_le_add->kS,add_lt_add_left->kT,le_of_lt_succ->kU,not_lt->kV,add_le_add_right->lJ,lt_of_le_of_ne->lK,lt_add_right->mw,lt_succ_of_le->mx,not_lt_zero->my,one_pos->mz,casesOn->nF,mod_lt->nG,lt_of_sub_pos->o3,sub_lt->o4,succ_ne_self->qT,le_antisymm->tM,le_of_not_lt->tN,lt_of_succ_lt->tO,lt_trichotomy->tP,le_add_of_sub_le->xJ,le_of_succ_le_succ->xK,succ_lt_succ->xL,ble->EI,ble_eq_true_of_le->EJ,le_of_ble_eq_true->EK,le_total->EL,lt_of_not_le->EM,min_le_right->EN,not_le->EO,pos_of_ne_zero->EP,zero_add->EQ,add_lt_add->SP,eq_of_mul_eq_mul_left->SQ,eq_or_lt_of_le->SR,le_of_succ_le->SS,le_zero->SU,lt_trans->SV,min_eq_right->SW,min_le_left->SX,min_self->SY,mul_comm->SZ,mul_le_mul_right->S0,pow_succ->S1,strongRecOn->S2
open Nat.succ renaming inj->S3
open Ne renaming symm->f8
open Option renaming some->Y,none->au,casesOn->tQ,map_eq_some_iff->tR,bind_eq_some_iff->xM,map->xN,rec->xO,bind_some->S4,isSome_iff_exists->S5
open Option.some renaming inj->bE,injEq->ER
open Or renaming elim->aE,inl->aK,inr->a1,resolve_left->hJ
open Prod renaming snd->iT,fst->S6
open Prod.mk renaming inj->tS,injEq->S7
open Pure renaming pure->cG
open PyProof renaming noPylong_small->Tf
open PyProof.Rows renaming seqObj->dS,arrOf->fy,IntsAre->iU,firstMet->mA,args_cons->o5,args_nil->o6,ksk_end->o7,Call_->qU,bindName_->tT,get?_update_seq->tU,kws_cons->tV,Subscript_->xP,assign_Name->xQ,callWith_builtin1->xR,failedOf->xS,listUpdate_at->xT,subscriptTail->xU,entry_list_sort->ET,slot_list_sort->EU,Assign_Tuple_swapped->S8,assign_Tuple_tuple->Tb,lt_int->Tc,wpAny_call_entry_kw->Td,wpAny_release'->Te,add_int->T9,floordiv_int->Ua,ge_int->Ub,gt_int->Uc,le_int->Ud,lt_bool->Ue,mod_int'->Uf,mul_int->Ug,sub_int->Uh
open PyProof.Rows.F renaming plain_set_update_loop->ES,entry_set_update_loop->S9
open PyProof.Rows.IntsAre renaming cons->qV
open PyProof.Rows.SortSt renaming mk'->Ta
open PySem renaming Str->aQ,wpAny_bind->aS,Addr->aU,Value->aZ,model->a7,wpAny->bc,Shared->bB,wpAny_pure->bC,Expr->cC,Around->cR,wpAny_mono->c3,Env->dF,eval->dU,wpAny_holding->eh,mainGlobals->eO,Tok->eV,call->e9,World->fB,codeAny->f9,intKind->ga,Program->g3,starEach->g6,wpAny_standAt->g7,callEnv->hz,backTo->hN,Obj->ik,Pos->il,DictEntry->iV,Result->ju,Sem->jv,behindInMarks->jx,Heap->j2,Params->j3,Scope->j4,sizeLine_eq->j5,wpAny_truthy_bool->kY,NameKind->lM,Stmt->lO,sizeLine->lP,FuncData->mD,backToKw->mG,keywordEach->mH,pyIter->mI,swappedStores->mJ,binaryOp->nK,bindArgs->nL,cLine->nM,codeAny_mono->nN,interactive->nO,standAt->nP,Fin->pc,assign->pl,bootBuiltins->pm,wpAny_askSetting->pn,Keyword->q7,argsOk->rw,builtinsNs->rx,callWith->ry,codeAny_builtin->rz,getItem->rA,isSubtype_type->rB,methodCallForm->rC,swapsWith->rD,wpAny_call->rE,wpAny_call_entry->rF,wpAny_ite_split->rG,wpAny_newList->rH,wpAny_of_eq->rI,Comprehension->tW,assignEach->t4,attributeBase->t5,compareOp->t6,dropValue->t7,getMethod->t8,letOwnedTupleGo->t9,mem_of_lookup->ua,methodCall->ub,operate->uc,pyNext->ud,sysModules->ue,wants->uf,wpAny_rule->ug,cellsFrom->x4,entryFor->x5,evalPart_some->x6,getAttr->x7,intKind_is->ya,notedBy->yb,subscripted->yd,wpAny_Compare1->ye,wpAny_Constant_bool->yf,wpAny_execs_nil->yg,wpAny_pyIter_list->yh,wpAny_setState_of->yi,callEnvC->Fe,codeAny_of_tree->Ff,compTurn->Fg,concat_meets->Fh,evalPart_none->Fi,methodCallPos->Fj,noFill_tuple_add->Fk,recursionLimit->Fl,seq_tuple_add->Fm,slicePick->Fn,wpAny_Constant_none->Fo,wpAny_Name->Fp,wpAny_Slice->Fq,wpAny_attempt->Fs,wpAny_callSpecial?_slot->Ft,wpAny_letTemporaryGo->Fu,wpAny_loadName_local->Fv,wpAny_newObj_type->Fw,wpAny_runValue->Fx,wpAny_setEntries_of->Fy,wpAny_setField->Fz,builtinLookup_eq_fast->Tz,constantsAlone->TA,entryFor_alias->TB,foldedForSure->TC,foldedSetIterable->TD,letTemporaryGo->TE,markedBehindIn_of_false->TF,plainId_quiet->TG,signature?_of->TH,slot_list_setitem->TI,swapsWithSole->TJ,typeLookup_type->TK,wpAny_UnaryOp->TL,wpAny_comprehension_free->TM,wpAny_execs_cons->TN,wpAny_fieldsOf->TO,wpAny_isInstance->TP,wpAny_loadPart->TQ,wpAny_newTuple->TR,wpAny_operating->TS,wpAny_pyIter_slot->TT,wpAny_pyIter_tuple->TU,wpAny_pyNext_range_end->TV,wpAny_pyNext_range_item->TW,wpAny_specialOf->TX,wpAny_storeName_local->TY,wpAt_of_wpAny->TZ
open PySem.Around renaming under_plainId->EV
open PySem.BoolOp renaming And->mB
open PySem.Builtin.Frozenset renaming newClass->Ui,slot0->Uj,updateFrom->Uk
open PySem.Builtin.Int renaming intBits->Tg
open PySem.Builtin.List renaming listTooLong->Th,listLengthHint->Ul,listSubscript?->Um,listUpdate->Un
open PySem.Builtin.Range renaming rangeSize->EW,rangeFitsLong->Ti,small->Uo
open PySem.Calls renaming Name_function_global->xV,loadGlobal_global->EX,evalArgs_plain->Tj,loadGlobal_builtin->Tk
open PySem.Challenge renaming rw_no0027_01->lL
open PySem.Code renaming compLoop->kW,call->nH,builtin->qW,compStart->EY
open PySem.Const renaming bool->gZ,none->qX,casesOn->Up
open PySem.Data renaming seq->c9,fields->fo,plain->nI,func->o8,set->qY,casesOn->tX,cell->tY
open PySem.Decimal renaming Rounding->o9
open PySem.Decimal.Rounding renaming up->cB,down->dj,halfUp->d1,halfEven->fp,ceiling->g0,halfDown->ij,zeroFiveUp->mC,floor->pa
open PySem.Env renaming blockKind->Tl
open PySem.ExcName renaming means->Tm
open PySem.Expr renaming Name->bR,Call->cz,Attribute->dT,casesOn->es,Tuple->e7,ListComp->fq,Constant->gE,BoolOp->g1,Compare->hK,Subscript->pb,List->qZ,Slice->q0,UnaryOp->q2,IfExp->xW
open PySem.F renaming args_tuple_add_2->EZ,entry_tuple_add->E0,slot_tuple_add->E1,plain_set_new->Tn,slot_list_append->To,slot_set_iter->Tp
open PySem.Fin renaming done->pd
open PySem.Flow renaming ret->gp,next->g2,casesOn->E2
open PySem.FuncBody renaming stmts->q4,casesOn->Uq
open PySem.Heap renaming push->co,get?_push_of_some->dJ,get?_push_size->d2,lt_size->d3,get?_update_self->q5,size_push->q6,get?_update_ne->tZ,SameBut->E3,IsList->Tr,get?_none_of_le->Ts,get?_update_other->Tt
open PySem.Heap.DictOf renaming new->Tq
open PySem.Heap.IsSliceOf renaming new->Ur
open PySem.Heap.SameBut renaming update->xX,refl->Us
open PySem.Moved renaming eq_with->Tu
open PySem.NameKind renaming cell->d4,free->ez,globalImplicit->gF
open PySem.Numpy renaming ErrWord->E4
open PySem.Numpy.ErrWord renaming call->q8,ignore->q9,print->ra,raise->rb,warn->rc
open PySem.Obj renaming mapSeq->e8,data_mapFields->pe,casesOn->t1,isFreed_of_fields->E5,cls_mapFields->Tv,putName->Tw
open PySem.PyData renaming keyHash->rd
open PySem.ScopeKind renaming function->hy
open PySem.SetTable renaming insertAt->pf,fresh->t2,below->E6
open PySem.Shared renaming heap->bz,toks->cA
open PySem.Sqlite renaming Aff->xY
open PySem.Sqlite.Aff renaming integer->cY,text->dK,real->g4,numeric->hL,blob->lN
open PySem.Sre renaming Wait->E7
open PySem.Sre.Wait renaming maxBelow->pg,atomic->re,closeLoop->rf,giveBack->rg,look->rh,lookNot->ri,maxMore->rj,maxTail->rk,minBelow->rl,minMore->rm,minTail->rn,nextBranch->ro,nextStart->rp,possBelow->rq,possMore->rr,takeMore->rs
open PySem.Stmt renaming Assign->mE,casesOn->nJ,Expr->rt,Return->xZ,Continue->E8
open PySem.Str renaming ofString->gG,ofString_eq_toList->Tx
open PySem.Value renaming ref->aN,type->bq,builtin->cH,int->cS,none->dL,str->fz,bool->jw,isInt->ph,casesOn->ru
open PySem.W renaming Frag->et,nsIn->fA,findIn->g5,putL->hM,dictOf->kX,keepIn->mF,emptyDict->pi,getL->pj,instObj->pk,typeIn->rv,codeIn->t3,hasDictIn->x0,kas_sort->x2,plainOver->x3,codeRec_of->E9,copiedNames->Fa,methodObj->Fb,specialIn->Fc
open PySem.Walks renaming list->Fd
open PySem.pickOrder renaming go->yc
open StateT renaming run_pure->T0
open _root_ renaming rfl->I,Nat->O,List->U,Int->am,absurd->aA,congrArg->aW,Option->a3,if_pos->a9,Bool->ba,if_neg->bf,trivial->bk,False->bW,Unit->cI,Array->cQ,Nonempty->d0,of_decide_eq_true->fa,decide_eq_true->fC,decide_eq_true_eq->g8,if_true->hO,True->im,decide_eq_false->io,decide_eq_true_iff->ip,String->iW,funext->jy,Decidable->jW,decide_eq_decide->j6,and_congr_right->mK,beq_iff_eq->mL,cond->nQ,if_false->po,reduceIte->pp,inferInstance->rJ,of_decide_eq_false->rK,congrFun->uh,propext->ui,beq_self_eq_true->yj,decide_eq_false_iff_not->yk,not_or->yl,LawfulBEq->Ey,beq_eq_false_iff_ne->FA,bne_self_eq_false->FB,decide_not->FC,or_congr_right->FD
open PySem PySem.W PyProof.Rows Classical
local macro_rules (kind:=Lean.Parser.Command.mutual)|s=>if s[1][0][1][0].isToken "inductive" then Lean.Macro.throwUnsupported else return s[1].rewriteBottomUp fun c=>let c:=c.setInfo .none;if c[1][0].isToken "def"||c[1][0].isToken "abbrev" then c.setArg 0 (c[0].setArg 4 c) else c
namespace Mine.Internal
section
universe u0 u1 u2 u3 u4 u5 u6 u7 u8 u9 u10 u11
mutual
theorem ar{P:Prop}(h:P:=by(repeat intro _);contradiction):P:=h
theorem aC{P Q:Prop}(h:Q)(k:Q->P):P:=k h
theorem bb{P:Prop}(h:let G:=P;G):P:=h
theorem as{P:Prop}(h:P:=by decide):P:=h
theorem aM{X x G:Prop}(h:X/\x)(k:X->x->G):G:=k h.1 h.2
theorem bH{b:Sort u0}{x:b->Prop}{G:Prop}(h:∃P,x P)(k:∀P,x P->G):G:=bD h λP q=>k P q
theorem b6{X x a G:Prop}(h:X/\x/\a)(k:X->x->a->G):G:=k h.1 h.2.1 h.2.2
theorem ay{b:Sort u0}{x X:b->Prop}{G:Prop}(h:∃P,x P/\X P)(k:∀P,x P->X P->G):G:=bD h λP q=>k P q.1 q.2
theorem f2{b:Sort u0}{R:Sort u1}{X:b->R->Prop}{G:Prop}(h:∃P,∃x,X P x)(k:∀P,∀x,X P x->G):G:=bD h λP q=>bD q λx A=>k P x A
theorem en{X x a l G:Prop}(h:X/\x/\a/\l)(k:X->x->a->l->G):G:=k h.1 h.2.1 h.2.2.1 h.2.2.2
theorem ch{b:Sort u0}{x X l:b->Prop}{G:Prop}(h:∃P,x P/\X P/\l P)(k:∀P,x P->X P->l P->G):G:=bD h λP q=>k P q.1 q.2.1 q.2.2
theorem cF{b:Sort u0}{R:Sort u1}{X l:b->R->Prop}{G:Prop}(h:∃P,∃x,X P x/\l P x)(k:∀P,∀x,X P x->l P x->G):G:=bD h λP q=>bD q λx A=>k P x A.1 A.2
theorem RI{b:Sort u0}{R:Sort u1}{X:Sort u2}{l:b->R->X->Prop}{G:Prop}(h:∃P,∃x,∃T,l P x T)(k:∀P,∀x,∀T,l P x T->G):G:=bD h λP q=>bD q λx A=>bD A λT i=>k P x T i
theorem tz{X x a l u G:Prop}(h:X/\x/\a/\l/\u)(k:X->x->a->l->u->G):G:=k h.1 h.2.1 h.2.2.1 h.2.2.2.1 h.2.2.2.2
theorem dC{b:Sort u0}{x X l u:b->Prop}{G:Prop}(h:∃P,x P/\X P/\l P/\u P)(k:∀P,x P->X P->l P->u P->G):G:=bD h λP q=>k P q.1 q.2.1 q.2.2.1 q.2.2.2
theorem dd{b:Sort u0}{R:Sort u1}{X l u:b->R->Prop}{G:Prop}(h:∃P,∃x,X P x/\l P x/\u P x)(k:∀P,∀x,X P x->l P x->u P x->G):G:=bD h λP q=>bD q λx A=>k P x A.1 A.2.1 A.2.2
theorem gi{b:Sort u0}{R:Sort u1}{X:Sort u2}{l u:b->R->X->Prop}{G:Prop}(h:∃P,∃x,∃T,l P x T/\u P x T)(k:∀P,∀x,∀T,l P x T->u P x T->G):G:=bD h λP q=>bD q λx A=>bD A λT i=>k P x T i.1 i.2
theorem lE{X x a l u E G:Prop}(h:X/\x/\a/\l/\u/\E)(k:X->x->a->l->u->E->G):G:=k h.1 h.2.1 h.2.2.1 h.2.2.2.1 h.2.2.2.2.1 h.2.2.2.2.2
theorem nz{b:Sort u0}{x X l u E:b->Prop}{G:Prop}(h:∃P,x P/\X P/\l P/\u P/\E P)(k:∀P,x P->X P->l P->u P->E P->G):G:=bD h λP q=>k P q.1 q.2.1 q.2.2.1 q.2.2.2.1 q.2.2.2.2
theorem oS{b:Sort u0}{R:Sort u1}{X l u E:b->R->Prop}{G:Prop}(h:∃P,∃x,X P x/\l P x/\u P x/\E P x)(k:∀P,∀x,X P x->l P x->u P x->E P x->G):G:=bD h λP q=>bD q λx A=>k P x A.1 A.2.1 A.2.2.1 A.2.2.2
theorem e5{b:Sort u0}{R:Sort u1}{X:Sort u2}{l u E:b->R->X->Prop}{G:Prop}(h:∃P,∃x,∃T,l P x T/\u P x T/\E P x T)(k:∀P,∀x,∀T,l P x T->u P x T->E P x T->G):G:=bD h λP q=>bD q λx A=>bD A λT i=>k P x T i.1 i.2.1 i.2.2
theorem Ee{b:Sort u0}{R:Sort u1}{X l u E a:b->R->Prop}{G:Prop}(h:∃P,∃x,X P x/\l P x/\u P x/\E P x/\a P x)(k:∀P,∀x,X P x->l P x->u P x->E P x->a P x->G):G:=bD h λP q=>bD q λx A=>k P x A.1 A.2.1 A.2.2.1 A.2.2.2.1 A.2.2.2.2
theorem hw{b:Sort u0}{R:Sort u1}{X:Sort u2}{l u E a:b->R->X->Prop}{G:Prop}(h:∃P,∃x,∃T,l P x T/\u P x T/\E P x T/\a P x T)(k:∀P,∀x,∀T,l P x T->u P x T->E P x T->a P x T->G):G:=bD h λP q=>bD q λx A=>bD A λT i=>k P x T i.1 i.2.1 i.2.2.1 i.2.2.2
theorem Ef{c:Sort u0}{R:Sort u1}{X:Sort u2}{B:Sort u3}{u E b:c->R->X->B->Prop}{G:Prop}(h:∃P,∃x,∃T,∃a,u P x T a/\E P x T a/\b P x T a)(k:∀P,∀x,∀T,∀a,u P x T a->E P x T a->b P x T a->G):G:=bD h λP q=>bD q λx A=>bD A λT i=>bD i λa Q=>k P x T a Q.1 Q.2.1 Q.2.2
theorem RF{c:Sort u0}{R:Sort u1}{X l u E a b:c->R->Prop}{G:Prop}(h:∃P,∃x,X P x/\l P x/\u P x/\E P x/\a P x/\b P x)(k:∀P,∀x,X P x->l P x->u P x->E P x->a P x->b P x->G):G:=bD h λP q=>bD q λx A=>k P x A.1 A.2.1 A.2.2.1 A.2.2.2.1 A.2.2.2.2.1 A.2.2.2.2.2
theorem RG{d:Sort u0}{R:Sort u1}{X l u E a b c:d->R->Prop}{G:Prop}(h:∃P,∃x,X P x/\l P x/\u P x/\E P x/\a P x/\b P x/\c P x)(k:∀P,∀x,X P x->l P x->u P x->E P x->a P x->b P x->c P x->G):G:=bD h λP q=>bD q λx A=>k P x A.1 A.2.1 A.2.2.1 A.2.2.2.1 A.2.2.2.2.1 A.2.2.2.2.2.1 A.2.2.2.2.2.2
theorem RK{e:Sort u0}{R:Sort u1}{X:Sort u2}{B:Sort u3}{m:Sort u4}{o:Sort u5}{u b c:e->R->X->B->m->o->Prop}{G:Prop}(h:∃P,∃x,∃T,∃a,∃i,∃M,u P x T a i M/\b P x T a i M/\c P x T a i M)(k:∀P,∀x,∀T,∀a,∀i,∀M,u P x T a i M->b P x T a i M->c P x T a i M->G):G:=bD h λP q=>bD q λx A=>bD A λT f=>bD f λa Q=>bD Q λi g=>bD g λM d=>k P x T a i M d.1 d.2.1 d.2.2
theorem RJ{e:Sort u0}{R:Sort u1}{X:Sort u2}{B:Sort u3}{u E b c d f i M:e->R->X->B->Prop}{G:Prop}(h:∃P,∃x,∃T,∃a,u P x T a/\E P x T a/\b P x T a/\c P x T a/\d P x T a/\f P x T a/\i P x T a/\M P x T a)(k:∀P,∀x,∀T,∀a,u P x T a->E P x T a->b P x T a->c P x T a->d P x T a->f P x T a->i P x T a->M P x T a->G):G:=bD h λP q=>bD q λx A=>bD A λT g=>bD g λa Q=>k P x T a Q.1 Q.2.1 Q.2.2.1 Q.2.2.2.1 Q.2.2.2.2.1 Q.2.2.2.2.2.1 Q.2.2.2.2.2.2.1 Q.2.2.2.2.2.2.2
theorem kJ{b:Sort u0}{a:b->Prop}{G:Prop}(h:X/\∃x,a x)(k:X->∀x,a x->G):G:=bD h.2 λx A=>k h.1 x A
theorem kK{b:Sort u0}{a l:b->Prop}{G:Prop}(h:X/\∃x,a x/\l x)(k:X->∀x,a x->l x->G):G:=bD h.2 λx A=>k h.1 x A.1 A.2
theorem Ec{b:Sort u0}{a l u:b->Prop}{G:Prop}(h:X/\∃x,a x/\l x/\u x)(k:X->∀x,a x->l x->u x->G):G:=bD h.2 λx A=>k h.1 x A.1 A.2.1 A.2.2
theorem oR{b:Sort u0}{l u:b->Prop}{G:Prop}(h:X/\x/\∃T,l T/\u T)(k:X->x->∀T,l T->u T->G):G:=bD h.2.2 λT i=>k h.1 h.2.1 T i.1 i.2
theorem RH{b:Sort u0}{R:Sort u1}{a:Sort u2}{X l:b->R->Prop}{E:b->R->a->Prop}{G:Prop}(h:∃P,∃x,X P x/\l P x/\∃i,E P x i)(k:∀P,∀x,X P x->l P x->∀i,E P x i->G):G:=bD h λP q=>bD q λx A=>bD A.2.2 λi c=>k P x A.1 A.2.1 i c
theorem RD{b:Sort u0}{R:Sort u1}{x X:b->Prop}{u E:b->R->Prop}{G:Prop}(h:∃P,x P/\X P/\∃a,u P a/\E P a)(k:∀P,x P->X P->∀a,u P a->E P a->G):G:=bD h λP q=>bD q.2.2 λa Q=>k P q.1 q.2.1 a Q.1 Q.2
theorem Rz{b:Sort u0}{l u E:b->Prop}{G:Prop}(h:X/\x/\∃T,l T/\u T/\E T)(k:X->x->∀T,l T->u T->E T->G):G:=bD h.2.2 λT i=>k h.1 h.2.1 T i.1 i.2.1 i.2.2
theorem Eb{c:Sort u0}{u E:c->Prop}{G:Prop}(h:X/\x/\b/\∃a,u a/\E a)(k:X->x->b->∀a,u a->E a->G):G:=bD h.2.2.2 λa Q=>k h.1 h.2.1 h.2.2.1 a Q.1 Q.2
theorem RE{b:Sort u0}{R:Sort u1}{x:b->Prop}{l u E a:b->R->Prop}{G:Prop}(h:∃P,x P/\∃T,l P T/\u P T/\E P T/\a P T)(k:∀P,x P->∀T,l P T->u P T->E P T->a P T->G):G:=bD h λP q=>bD q.2 λT i=>k P q.1 T i.1 i.2.1 i.2.2.1 i.2.2.2
theorem RB{b:Sort u0}{R:Sort u1}{x X l:b->Prop}{E u:b->R->Prop}{G:Prop}(h:∃P,x P/\X P/\l P/\∃i,E P i/\u P i)(k:∀P,x P->X P->l P->∀i,E P i->u P i->G):G:=bD h λP q=>bD q.2.2.2 λi a=>k P q.1 q.2.1 q.2.2.1 i a.1 a.2
theorem RA{b:Sort u0}{l u E a:b->Prop}{G:Prop}(h:X/\x/\∃T,l T/\u T/\E T/\a T)(k:X->x->∀T,l T->u T->E T->a T->G):G:=bD h.2.2 λT i=>k h.1 h.2.1 T i.1 i.2.1 i.2.2.1 i.2.2.2
theorem Ry{d:Sort u0}{u E c:d->Prop}{G:Prop}(h:X/\x/\b/\∃a,u a/\E a/\c a)(k:X->x->b->∀a,u a->E a->c a->G):G:=bD h.2.2.2 λa Q=>k h.1 h.2.1 h.2.2.1 a Q.1 Q.2.1 Q.2.2
theorem aP(q:X)(A:x)(i:a):X/\x/\a:=⟨q,A,i⟩
theorem lk{b:Sort u0}{a:b->Prop}(q:X)(x:b)(i:a x):X/\∃x,a x:=⟨q,x,i⟩
theorem aF{b:Sort u0}{x X:b->Prop}(P:b)(A:x P)(i:X P):∃P,x P/\X P:=⟨P,A,i⟩
theorem fu{b:Sort u0}{R:Sort u1}{X:b->R->Prop}(P:b)(x:R)(i:X P x):∃P,∃x,X P x:=⟨P,x,i⟩
theorem bV(q:X)(A:x)(i:a)(Q:l):X/\x/\a/\l:=⟨q,A,i,Q⟩
theorem J4{b:Sort u0}{l:b->Prop}(q:X)(A:x)(T:b)(Q:l T):X/\x/\∃T,l T:=⟨q,A,T,Q⟩
theorem md{b:Sort u0}{a l:b->Prop}(q:X)(x:b)(i:a x)(Q:l x):X/\∃x,a x/\l x:=⟨q,x,i,Q⟩
theorem J6{b:Sort u0}{R:Sort u1}{l:b->R->Prop}(q:X)(x:b)(T:R)(Q:l x T):X/\∃x,∃T,l x T:=⟨q,x,T,Q⟩
theorem bO{b:Sort u0}{x X l:b->Prop}(P:b)(A:x P)(i:X P)(Q:l P):∃P,x P/\X P/\l P:=⟨P,A,i,Q⟩
theorem sH{b:Sort u0}{R:Sort u1}{x:b->Prop}{l:b->R->Prop}(P:b)(A:x P)(T:R)(Q:l P T):∃P,x P/\∃T,l P T:=⟨P,A,T,Q⟩
theorem dr{b:Sort u0}{R:Sort u1}{X l:b->R->Prop}(P:b)(x:R)(i:X P x)(Q:l P x):∃P,∃x,X P x/\l P x:=⟨P,x,i,Q⟩
theorem sI{b:Sort u0}{R:Sort u1}{X:Sort u2}{l:b->R->X->Prop}(P:b)(x:R)(T:X)(Q:l P x T):∃P,∃x,∃T,l P x T:=⟨P,x,T,Q⟩
theorem fg(q:X)(A:x)(i:a)(Q:l)(b:u):X/\x/\a/\l/\u:=⟨q,A,i,Q,b⟩
theorem jK{c:Sort u0}{u:c->Prop}(q:X)(A:x)(i:a)(b:c)(d:u b):X/\x/\a/\∃b,u b:=⟨q,A,i,b,d⟩
theorem eP{b:Sort u0}{l u:b->Prop}(q:X)(A:x)(T:b)(Q:l T)(a:u T):X/\x/\∃T,l T/\u T:=⟨q,A,T,Q,a⟩
theorem J5{b:Sort u0}{R:Sort u1}{u:b->R->Prop}(q:X)(A:x)(T:b)(a:R)(c:u T a):X/\x/\∃T,∃a,u T a:=⟨q,A,T,a,c⟩
theorem J7{b:Sort u0}{R:Sort u1}{l u:b->R->Prop}(q:X)(x:b)(T:R)(Q:l x T)(a:u x T):X/\∃x,∃T,l x T/\u x T:=⟨q,x,T,Q,a⟩
theorem dQ{b:Sort u0}{x X l u:b->Prop}(P:b)(A:x P)(i:X P)(Q:l P)(a:u P):∃P,x P/\X P/\l P/\u P:=⟨P,A,i,Q,a⟩
theorem d8{b:Sort u0}{R:Sort u1}{x X:b->Prop}{u:b->R->Prop}(P:b)(A:x P)(i:X P)(a:R)(c:u P a):∃P,x P/\X P/\∃a,u P a:=⟨P,A,i,a,c⟩
theorem fv{b:Sort u0}{R:Sort u1}{X l u:b->R->Prop}(P:b)(x:R)(i:X P x)(Q:l P x)(a:u P x):∃P,∃x,X P x/\l P x/\u P x:=⟨P,x,i,Q,a⟩
theorem h4{b:Sort u0}{R:Sort u1}{X:Sort u2}{l u:b->R->X->Prop}(P:b)(x:R)(T:X)(Q:l P x T)(a:u P x T):∃P,∃x,∃T,l P x T/\u P x T:=⟨P,x,T,Q,a⟩
theorem fh(q:X)(A:x)(i:a)(Q:l)(b:u)(d:E):X/\x/\a/\l/\u/\E:=⟨q,A,i,Q,b,d⟩
theorem na{b:Sort u0}{l u E:b->Prop}(q:X)(A:x)(T:b)(Q:l T)(a:u T)(d:E T):X/\x/\∃T,l T/\u T/\E T:=⟨q,A,T,Q,a,d⟩
theorem kp{b:Sort u0}{a l u E:b->Prop}(q:X)(x:b)(i:a x)(Q:l x)(c:u x)(d:E x):X/\∃x,a x/\l x/\u x/\E x:=⟨q,x,i,Q,c,d⟩
theorem h1{b:Sort u0}{x X l u E:b->Prop}(P:b)(A:x P)(i:X P)(Q:l P)(a:u P)(d:E P):∃P,x P/\X P/\l P/\u P/\E P:=⟨P,A,i,Q,a,d⟩
theorem h3{b:Sort u0}{R:Sort u1}{X l u E:b->R->Prop}(P:b)(x:R)(i:X P x)(Q:l P x)(a:u P x)(d:E P x):∃P,∃x,X P x/\l P x/\u P x/\E P x:=⟨P,x,i,Q,a,d⟩
theorem ko(q:X)(A:x)(i:a)(Q:l)(c:u)(d:E)(P:b):X/\x/\a/\l/\u/\E/\b:=⟨q,A,i,Q,c,d,P⟩
theorem vU{b:Sort u0}{R:Sort u1}{u E c:b->R->Prop}(q:X)(A:x)(T:b)(a:R)(d:u T a)(e:E T a)(P:c T a):X/\x/\∃T,∃a,u T a/\E T a/\c T a:=⟨q,A,T,a,d,e,P⟩
theorem h2{b:Sort u0}{x X l u E a:b->Prop}(P:b)(A:x P)(i:X P)(Q:l P)(c:u P)(d:E P)(e:a P):∃P,x P/\X P/\l P/\u P/\E P/\a P:=⟨P,A,i,Q,c,d,e⟩
theorem vV{b:Sort u0}{R:Sort u1}{X:Sort u2}{l u E a:b->R->X->Prop}(P:b)(x:R)(T:X)(Q:l P x T)(c:u P x T)(d:E P x T)(e:a P x T):∃P,∃x,∃T,l P x T/\u P x T/\E P x T/\a P x T:=⟨P,x,T,Q,c,d,e⟩
theorem sE{c:Sort u0}{u E d e:c->Prop}(q:X)(A:x)(i:a)(b:c)(f:u b)(g:E b)(P:d b)(B:e b):X/\x/\a/\∃b,u b/\E b/\d b/\e b:=⟨q,A,i,b,f,g,P,B⟩
theorem sD{b:Sort u0}{c d:b->Prop}(q:X)(A:x)(i:a)(Q:l)(e:u)(f:E)(C:b)(B:c C)(w:d C):X/\x/\a/\l/\u/\E/\∃C,c C/\d C:=⟨q,A,i,Q,e,f,C,B,w⟩
theorem sG{b:Sort u0}{R:Sort u1}{l u E a c d:b->R->Prop}(q:X)(x:b)(T:R)(Q:l x T)(e:u x T)(f:E x T)(P:a x T)(B:c x T)(w:d x T):X/\∃x,∃T,l x T/\u x T/\E x T/\a x T/\c x T/\d x T:=⟨q,x,T,Q,e,f,P,B,w⟩
theorem p5{b:Sort u0}{E u c d f e:b->Prop}(q:X)(A:x)(g:a)(Q:l)(i:b)(h:E i)(P:u i)(B:c i)(w:d i)(m:f i)(K:e i):X/\x/\a/\l/\∃i,E i/\u i/\c i/\d i/\f i/\e i:=⟨q,A,g,Q,i,h,P,B,w,m,K⟩
theorem sF{c:Sort u0}{R:Sort u1}{u E e f:c->Prop}{g i:c->R->Prop}(q:X)(A:x)(h:a)(b:c)(j:u b)(k:E b)(P:e b)(B:f b)(d:R)(m:g b d)(K:i b d):X/\x/\a/\∃b,u b/\E b/\e b/\f b/\∃d,g b d/\i b d:=⟨q,A,h,b,j,k,P,B,d,m,K⟩
theorem Ka{b:Sort u0}{R:Sort u1}{X:Sort u2}{B:Sort u3}{m:Sort u4}{E u c d f e:b->R->X->B->m->Prop}(P:b)(x:R)(T:X)(a:B)(i:m)(g:E P x T a i)(h:u P x T a i)(j:c P x T a i)(w:d P x T a i)(k:f P x T a i)(K:e P x T a i):∃P,∃x,∃T,∃a,∃i,E P x T a i/\u P x T a i/\c P x T a i/\d P x T a i/\f P x T a i/\e P x T a i:=⟨P,x,T,a,i,g,h,j,w,k,K⟩
theorem Bn{b:Sort u0}{R:Sort u1}{X:Sort u2}{B:Sort u3}{m:Sort u4}{o:Sort u5}{u:Sort u6}{c d f e:b->R->X->B->m->o->u->Prop}(P:b)(x:R)(T:X)(a:B)(i:m)(M:o)(C:u)(g:c P x T a i M C)(w:d P x T a i M C)(h:f P x T a i M C)(K:e P x T a i M C):∃P,∃x,∃T,∃a,∃i,∃M,∃C,c P x T a i M C/\d P x T a i M C/\f P x T a i M C/\e P x T a i M C:=⟨P,x,T,a,i,M,C,g,w,h,K⟩
theorem Ed{b:Sort u0}{R:Sort u1}{x:b->Prop}{l:b->R->Prop}{G:Prop}(h:∃P,x P/\∃T,l P T)(k:∀P,x P->∀T,l P T->G):G:=bD h λP q=>bD q.2 λT i=>k P q.1 T i
theorem Bl{b:Sort u0}{R:Sort u1}{x:b->Prop}{l u:b->R->Prop}(P:b)(A:x P)(T:R)(Q:l P T)(a:u P T):∃P,x P/\∃T,l P T/\u P T:=⟨P,A,T,Q,a⟩
theorem Bm{b:Sort u0}{R:Sort u1}{X:Sort u2}{x:b->Prop}{u:b->R->X->Prop}(P:b)(A:x P)(T:R)(a:X)(c:u P T a):∃P,x P/\∃T,∃a,u P T a:=⟨P,A,T,a,c⟩
theorem nb{b:Sort u0}{R:Sort u1}{X:Sort u2}{l u E:b->R->X->Prop}(P:b)(x:R)(T:X)(Q:l P x T)(a:u P x T)(d:E P x T):∃P,∃x,∃T,l P x T/\u P x T/\E P x T:=⟨P,x,T,Q,a,d⟩
theorem p6{b:Sort u0}{R:Sort u1}{x:b->Prop}{l u E a:b->R->Prop}(P:b)(A:x P)(T:R)(Q:l P T)(c:u P T)(d:E P T)(e:a P T):∃P,x P/\∃T,l P T/\u P T/\E P T/\a P T:=⟨P,A,T,Q,c,d,e⟩
theorem J8{b:Sort u0}{R:Sort u1}{c:Sort u2}{u E d e:b->R->c->Prop}(q:X)(x:b)(T:R)(a:c)(f:u x T a)(g:E x T a)(P:d x T a)(B:e x T a):X/\∃x,∃T,∃a,u x T a/\E x T a/\d x T a/\e x T a:=⟨q,x,T,a,f,g,P,B⟩
theorem J9{b:Sort u0}{R:Sort u1}{X l u E a c:b->R->Prop}(P:b)(x:R)(i:X P x)(Q:l P x)(d:u P x)(e:E P x)(f:a P x)(B:c P x):∃P,∃x,X P x/\l P x/\u P x/\E P x/\a P x/\c P x:=⟨P,x,i,Q,d,e,f,B⟩
@[elab_as_elim]theorem J{α:Sort u0}{a b:α}{P:α->Prop}(h:a=b)(g:P b):P a:=h▸g
@[elab_as_elim]theorem az{α:Sort u0}{a b:α}{P:α->Prop}(h:a=b)(g:P a):P b:=h▸g
theorem RC{b:Sort u0}{R:Sort u1}{x X:b->Prop}{u:b->R->Prop}{G:Prop}(h:∃P,x P/\X P/\∃a,u P a)(k:∀P,x P->X P->∀a,u P a->G):G:=bD h λP q=>bD q.2.2 λa Q=>k P q.1 q.2.1 a Q
@[elab_as_elim]theorem qb{P:O->Prop}{v:O}(h:v<=4)(X:P 0)(x:P 1)(a:P 2)(l:P 3)(u:P 4):P v:=by induction v using nF with|zero=>exact X|succ v=>induction v using nF with|zero=>exact x|succ v=>induction v using nF with|zero=>exact a|succ v=>induction v using nF with|zero=>exact l|succ v=>induction v using nF with|zero=>exact u|succ v=>exact aA (xK<|xK<|xK<|xK h)<|Nat.not_succ_le_zero v
end
end
mutual
theorem fk{P:Prop}(h:cI->P):P:=h ()
theorem hs{P:Prop}(h:cI->cI->P):P:=h () ()
theorem kx{P:Prop}(h:cI->cI->cI->P):P:=h () () ()
theorem je{P:Prop}(h:cI->cI->cI->cI->P):P:=h () () () ()
theorem qt{P:Prop}(h:cI->cI->cI->cI->cI->P):P:=h () () () () ()
theorem Nx{P:Prop}(h:cI->cI->cI->cI->cI->cI->P):P:=h () () () () () ()
theorem Ny{P:Prop}(h:cI->cI->cI->cI->cI->cI->cI->cI->P):P:=h () () () () () () () ()
theorem wv{P:Prop}(h:cI->cI->cI->cI->cI->cI->cI->cI->cI->cI->P):P:=h () () () () () () () () () ()
theorem CF{P:Prop}(h:cI->cI->cI->cI->cI->cI->cI->cI->cI->cI->cI->P):P:=h () () () () () () () () () () ()
def cM{α:Type}[d0 α](R:α->Prop):α:=Classical.epsilon λx=>¬R x
theorem sC{α:Type}[d0 α]{R:α->Prop}(h:R (cM R))(x:α):R x:=jl λn=>Classical.epsilon_spec (p:=λx=>¬R x) ⟨x,n⟩ h
end
section
variable{a b c d e:Type}{Q:a->b->c->d->e->Prop}{f:a}{g:b}{h:c}{i:d}{j:e}
mutual
def is(Q:a->b->c->d->e->Prop):=Q
theorem jT(a:Q f g h i j):is Q f g h i j:=a
def oO(Q:a->b->c->d->e->Prop)(x:a×b×c×d×e):Prop:=Q x.1 x.2.1 x.2.2.1 x.2.2.2.1 x.2.2.2.2
theorem jJ[d0 (a×b×c×d×e)](k:is Q (cM<|oO Q).1 (cM<|oO Q).2.1 (cM<|oO Q).2.2.1 (cM<|oO Q).2.2.2.1 (cM<|oO Q).2.2.2.2):∀f g h i j,Q f g h i j:=λf g h i j=>sC (R:=oO Q) k (f,g,h,i,j)
end
end
section
variable{a b c d e k l m n:Type}{Q:a->b->c->d->e->k->l->m->n->Prop}{f:a}{g:b}{h:c}{i:d}{j:e}{o:k}{p:l}{q:m}{r:n}
mutual
def eE(Q:a->b->c->d->e->k->l->m->n->Prop):=Q
theorem e3(a:Q f g h i j o p q r):eE Q f g h i j o p q r:=a
def kF(Q:a->b->c->d->e->k->l->m->n->Prop)(x:(a×b×c×d×e)×(k×l×m×n)):Prop:=Q x.1.1 x.1.2.1 x.1.2.2.1 x.1.2.2.2.1 x.1.2.2.2.2 x.2.1 x.2.2.1 x.2.2.2.1 x.2.2.2.2
theorem e0[d0 ((a×b×c×d×e)×(k×l×m×n))](s:eE Q (cM<|kF Q).1.1 (cM<|kF Q).1.2.1 (cM<|kF Q).1.2.2.1 (cM<|kF Q).1.2.2.2.1 (cM<|kF Q).1.2.2.2.2 (cM<|kF Q).2.1 (cM<|kF Q).2.2.1 (cM<|kF Q).2.2.2.1 (cM<|kF Q).2.2.2.2):∀f g h i j o p q r,Q f g h i j o p q r:=λf g h i j o p q r=>sC (R:=kF Q) s ((f,g,h,i,j),(o,p,q,r))
end
end
section
variable{a b c d e k l m n s t u v w:Type}{Q:a->b->c->d->e->k->l->m->n->s->t->u->v->w->Prop}{f:a}{g:b}{h:c}{i:d}{j:e}{o:k}{p:l}{q:m}{r:n}{x:s}{y:t}{z:u}{A:v}{B:w}
mutual
def eD(Q:a->b->c->d->e->k->l->m->n->s->t->u->v->w->Prop):=Q
theorem e2(a:Q f g h i j o p q r x y z A B):eD Q f g h i j o p q r x y z A B:=a
def hH(Q:a->b->c->d->e->k->l->m->n->s->t->u->v->w->Prop)(x:(a×b×c×d×e)×(k×l×m×n×s)×(t×u×v×w)):Prop:=Q x.1.1 x.1.2.1 x.1.2.2.1 x.1.2.2.2.1 x.1.2.2.2.2 x.2.1.1 x.2.1.2.1 x.2.1.2.2.1 x.2.1.2.2.2.1 x.2.1.2.2.2.2 x.2.2.1 x.2.2.2.1 x.2.2.2.2.1 x.2.2.2.2.2
theorem eZ[d0 ((a×b×c×d×e)×(k×l×m×n×s)×(t×u×v×w))](C:eD Q (cM<|hH Q).1.1 (cM<|hH Q).1.2.1 (cM<|hH Q).1.2.2.1 (cM<|hH Q).1.2.2.2.1 (cM<|hH Q).1.2.2.2.2 (cM<|hH Q).2.1.1 (cM<|hH Q).2.1.2.1 (cM<|hH Q).2.1.2.2.1 (cM<|hH Q).2.1.2.2.2.1 (cM<|hH Q).2.1.2.2.2.2 (cM<|hH Q).2.2.1 (cM<|hH Q).2.2.2.1 (cM<|hH Q).2.2.2.2.1 (cM<|hH Q).2.2.2.2.2):∀f g h i j o p q r x y z A B,Q f g h i j o p q r x y z A B:=λf g h i j o p q r x y z A B=>sC (R:=hH Q) C ((f,g,h,i,j),(o,p,q,r,x),(y,z,A,B))
end
end
section
variable{a b c d e k l m n s t u v w C D E F G H K L M N P:Type}{Q:a->b->c->d->e->k->l->m->n->s->t->u->v->w->C->D->E->F->G->H->K->L->M->N->P->Prop}{f:a}{g:b}{h:c}{i:d}{j:e}{o:k}{p:l}{q:m}{r:n}{x:s}{y:t}{z:u}{A:v}{B:w}{S:C}{T:D}{W:E}{X:F}{a18:G}{a19:H}{a20:K}{a21:L}{a22:M}{a23:N}{a24:P}
mutual
def he(Q:a->b->c->d->e->k->l->m->n->s->t->u->v->w->C->D->E->F->G->H->K->L->M->N->P->Prop):=Q
theorem ic(a:Q f g h i j o p q r x y z A B S T W X a18 a19 a20 a21 a22 a23 a24):he Q f g h i j o p q r x y z A B S T W X a18 a19 a20 a21 a22 a23 a24:=a
def eM(Q:a->b->c->d->e->k->l->m->n->s->t->u->v->w->C->D->E->F->G->H->K->L->M->N->P->Prop)(x:(a×b×c×d×e)×(k×l×m×n×s)×(t×u×v×w×C)×(D×E×F×G×H)×(K×L×M×N×P)):Prop:=Q x.1.1 x.1.2.1 x.1.2.2.1 x.1.2.2.2.1 x.1.2.2.2.2 x.2.1.1 x.2.1.2.1 x.2.1.2.2.1 x.2.1.2.2.2.1 x.2.1.2.2.2.2 x.2.2.1.1 x.2.2.1.2.1 x.2.2.1.2.2.1 x.2.2.1.2.2.2.1 x.2.2.1.2.2.2.2 x.2.2.2.1.1 x.2.2.2.1.2.1 x.2.2.2.1.2.2.1 x.2.2.2.1.2.2.2.1 x.2.2.2.1.2.2.2.2 x.2.2.2.2.1 x.2.2.2.2.2.1 x.2.2.2.2.2.2.1 x.2.2.2.2.2.2.2.1 x.2.2.2.2.2.2.2.2
theorem h0[d0 ((a×b×c×d×e)×(k×l×m×n×s)×(t×u×v×w×C)×(D×E×F×G×H)×(K×L×M×N×P))](a':he Q (cM<|eM Q).1.1 (cM<|eM Q).1.2.1 (cM<|eM Q).1.2.2.1 (cM<|eM Q).1.2.2.2.1 (cM<|eM Q).1.2.2.2.2 (cM<|eM Q).2.1.1 (cM<|eM Q).2.1.2.1 (cM<|eM Q).2.1.2.2.1 (cM<|eM Q).2.1.2.2.2.1 (cM<|eM Q).2.1.2.2.2.2 (cM<|eM Q).2.2.1.1 (cM<|eM Q).2.2.1.2.1 (cM<|eM Q).2.2.1.2.2.1 (cM<|eM Q).2.2.1.2.2.2.1 (cM<|eM Q).2.2.1.2.2.2.2 (cM<|eM Q).2.2.2.1.1 (cM<|eM Q).2.2.2.1.2.1 (cM<|eM Q).2.2.2.1.2.2.1 (cM<|eM Q).2.2.2.1.2.2.2.1 (cM<|eM Q).2.2.2.1.2.2.2.2 (cM<|eM Q).2.2.2.2.1 (cM<|eM Q).2.2.2.2.2.1 (cM<|eM Q).2.2.2.2.2.2.1 (cM<|eM Q).2.2.2.2.2.2.2.1 (cM<|eM Q).2.2.2.2.2.2.2.2):∀f g h i j o p q r x y z A B S T W X a18 a19 a20 a21 a22 a23 a24,Q f g h i j o p q r x y z A B S T W X a18 a19 a20 a21 a22 a23 a24:=λf g h i j o p q r x y z A B S T W X a18 a19 a20 a21 a22 a23 a24=>sC (R:=eM Q) a' ((f,g,h,i,j),(o,p,q,r,x),(y,z,A,B,S),(T,W,X,a18,a19),(a20,a21,a22,a23,a24))
end
end
namespace Lin
mutual
open Classical
inductive cJ where|q(i:O)|c(n:O)|e(a b:cJ)|m(n:O)(a:cJ)|p(a:cJ)(n:O)
inductive cs where|q(i:O)|c(n:am)|e(a b:cs)|d(a b:cs)|r(a:cs)|m(z:am)(a:cs)|p(a:cJ)
abbrev cJ.a:cJ:=.q 0
abbrev cs.a:cs:=.q 0
abbrev cs.g:cs:=.p<|.q 0
abbrev cJ.b:cJ:=.q 1
abbrev cs.b:cs:=.q 1
abbrev cs.j:cs:=.p<|.q 1
abbrev cJ.f:cJ:=.q 2
abbrev cs.f:cs:=.q 2
abbrev cs.s:cs:=.p<|.q 2
abbrev cJ.l:cJ:=.q 3
abbrev cs.l:cs:=.q 3
abbrev cs.u:cs:=.p<|.q 3
abbrev cJ.d:cJ:=.q 4
abbrev cs.v:cs:=.p<|.q 4
abbrev cJ.g:cJ:=.q 5
abbrev cs.w:cs:=.p<|.q 5
abbrev cJ.j:cJ:=.q 6
abbrev cs.z:cs:=.p<|.q 6
abbrev cJ.r:cJ:=.q 7
abbrev cs.A:cs:=.p<|.q 7
abbrev cJ.i:cJ:=.c 0
abbrev cs.i:cs:=.c 0
abbrev cJ.k:cJ:=.c 1
abbrev cs.k:cs:=.c 1
abbrev cJ.h(a:cJ):cJ:=.e a<|.c 1
abbrev cs.h(a:cs):cs:=.e a<|.c 1
inductive fD where|g(k l:cJ)|e(k l:cJ)|a(k l:cJ)|h(k l:cJ)|d(k l:cs)|b(k l:cs)|c(k l:cs)|j(k l:cs)|f(m:fD)|i
abbrev gR{α:Type}(z:α):U α->O->α|[],_=>z|a::_,0=>a|_::r,i+1=>gR z r i
abbrev cJ.n(x:U O):cJ->O|.q i=>gR 0 x i|.c d=>d|.e a b=>a.n x+b.n x|.m d a=>d*a.n x|.p a d=>a.n x*d
abbrev cs.n(x:U O)(y:U am):cs->am|.q i=>gR 0 y i|.c f=>f|.e a b=>a.n x y+b.n x y|.d a b=>a.n x y-b.n x y|.r a=>-a.n x y|.m f a=>f*a.n x y|.p a=>(a.n x:O)
abbrev fD.n(x:U O)(y:U am):fD->Prop|.g k l=>k.n x<=l.n x|.e k l=>k.n x<l.n x|.a k l=>k.n x=l.n x|.h k l=>k.n x≠l.n x|.d k l=>k.n x y<=l.n x y|.b k l=>k.n x y<l.n x y|.c k l=>k.n x y=l.n x y|.j k l=>k.n x y≠l.n x y|.f m=>¬m.n x y|.i=>bW
def jI:U am->U am->am|c::r,x::s=>c*x+jI r s|_,_=>0
def se:U am->U am->U am|[],b=>b|a,[]=>a|a::r,b::s=>(a+b)::se r s
def wO(k:am)(l:U am):U am:=l.map (k*·)
def tt:O->U am|0=>[1]|i+1=>0::tt i
structure cU where
 g:U am
 d:U am
 c:am
def cU.b(x:U O)(y:U am)(p:cU):am:=Lin.jI p.g (x.map ig)+Lin.jI p.d y+p.c
def cU.e(p q:cU):cU:=⟨se p.g q.g,se p.d q.d,p.c+q.c⟩
def cU.f(z:am)(p:cU):cU:=⟨wO z p.g,wO z p.d,z*p.c⟩
def cU.a(p q:cU)(z:am):cU:=(p.e<|q.f<|-1).e ⟨[],[],z⟩
theorem vi(a b c d:am):a+b+(c+d)=a+c+(b+d):=by rw[R2,R2,Int.add_left_comm b]
theorem it{a b c d:am}(h:a=b)(g:c=d):a+c=b+d:=congr (aW HAdd.hAdd h) g
theorem AV(a:U am):∀b c,jI (se a b) c=jI a c+jI b c:=by induction a with|nil=>exactλb c=>(nE _).symm|cons a r d=>intro b c;induction b using gn with|nil=>exact(oX _).symm|cons b s=>induction c using gn with|nil=>rfl|cons c t=>exact(it (Int.add_mul a b c)<|d s t).trans<|vi _ _ _ _
theorem AW(k:am)(a:U am):∀b,jI (wO k a) b=k*jI a b:=by induction a with|nil=>exactλb=>(Sd _).symm|cons a r d=>intro b;induction b using gn with|nil=>exact(Sd _).symm|cons b t=>exact(it (Int.mul_assoc k a b)<|d t).trans (Er _ _ _).symm
theorem AX(i:O):∀a,jI (tt i) a=gR 0 a i:=by
 induction i with
 |zero=>intro a;induction a using gn with|nil=>rfl|cons a t=>exact(oX _).trans<|Ew a
 |succ i d=>intro a;induction a using gn with|nil=>rfl|cons a t=>exact(it (Sg a)<|d t).trans<|nE _
theorem KU(x:U O):∀i,gR 0 (x.map ig) i=(gR 0 x i):=by induction x with|nil=>exactλi=>I|cons a t d=>exactλi=>by induction i using nF with|zero=>rfl|succ i=>exact d i
end
section
variable{x:U O}{y:U am}
mutual
theorem cU.i(p q:cU):(p.e q).b x y=p.b x y+q.b x y:=(it ((it (AV _ _ _)<|AV _ _ _).trans<|vi _ _ _ _) I).trans<|vi _ _ _ _
theorem cU.h(z:am)(p:cU):(p.f z).b x y=z*p.b x y:=(it ((it (AW _ _ _)<|AW _ _ _).trans (Er _ _ _).symm) I).trans (Er _ _ _).symm
theorem cU.j(z:am):cU.b x y ⟨[],[],z⟩=z:=nE _
theorem cU.k(p q:cU)(z:am):(p.a q z).b x y=p.b x y-q.b x y+z:=(cU.i _ _).trans<|it ((cU.i _ _).trans<|it I<|(cU.h _ _).trans<|Ev _)<|cU.j z
def cJ.o:cJ->cU|.q i=>⟨tt i,[],0⟩|.c n=>⟨[],[],n⟩|.e a b=>a.o.e b.o|.m n a=>a.o.f n|.p a n=>a.o.f n
theorem cJ.t(d:cJ):d.o.b x y=(d.n x):=by induction d with|q i=>exact(oX _).trans<|(oX _).trans<|(AX i _).trans<|KU _ i|c n=>exact cU.j _|e a b g k=>exact(cU.i _ _).trans<|it g k|m n a f=>exact(cU.h _ _).trans<|aW _ f|p a n f=>exact((cU.h _ _).trans<|Int.mul_comm _ _).trans (aW (·*(n:am)) f)
def cs.o:cs->cU|.q i=>⟨[],tt i,0⟩|.c n=>⟨[],[],n⟩|.e a b=>a.o.e b.o|.d a b=>a.o.a b.o 0|.r a=>a.o.f<|-1|.m n a=>a.o.f n|.p a=>a.o
theorem cs.t(f:cs):f.o.b x y=f.n x y:=by induction f with|q i=>exact(oX _).trans<|(nE _).trans<|AX i y|c n=>exact cU.j _|e a b g k=>exact(cU.i _ _).trans<|it g k|d a b g k=>exact(cU.k _ _ _).trans<|(oX _).trans<|congr (aW HSub.hSub g) k|r a h=>exact(cU.h _ _).trans<|(Ev _).trans<|aW _ h|m n a h=>exact(cU.h _ _).trans<|aW _ h|p a=>exact cJ.t a
def fD.o:fD->ba->U cU|.g k l=>λt=>nQ t [l.o.a k.o 0] [k.o.a l.o<|-1]|.e k l=>λt=>nQ t [l.o.a k.o<|-1] [k.o.a l.o 0]|.a k l=>λt=>nQ t [l.o.a k.o 0,k.o.a l.o 0] []|.h k l=>λt=>nQ t [] [l.o.a k.o 0,k.o.a l.o 0]|.d k l=>λt=>nQ t [l.o.a k.o 0] [k.o.a l.o<|-1]|.b k l=>λt=>nQ t [l.o.a k.o<|-1] [k.o.a l.o 0]|.c k l=>λt=>nQ t [l.o.a k.o 0,k.o.a l.o 0] []|.j k l=>λt=>nQ t [] [l.o.a k.o 0,k.o.a l.o 0]|.f m=>λt=>m.o<|!t|.i=>λp=>[]
theorem DM{p q:cU}(d:p.b x y=a)(M:q.b x y=c)(h:0<=a-c+z):0<=(p.a q z).b x y:=by rw[cU.k,d,M];exact h
def hQ(x:U O)(y:U am)(l:U cU):Prop:=∀p∈l,0<=p.b x y
theorem ow{p q:cU}(d:p.b x y=a)(M:q.b x y=c)(h:a<=c):0<=(q.a p 0).b x y:=DM M d<|(oX<|c-a).symm▸Int.sub_nonneg_of_le h
theorem mn{p q:cU}(d:p.b x y=a)(M:q.b x y=c)(h:a<c):0<=(q.a p<|-1).b x y:=DM M d<|Eo<|Int.sub_pos_of_lt h
theorem fZ(h:0<=p.b x y):hQ x y [p]:=List.forall_mem_singleton.mpr h
theorem Rk(h:0<=p.b x y)(a:0<=q.b x y):hQ x y [p,q]:=EG.mpr ⟨h,fZ a⟩
theorem np:hQ x y []:=λp h=>aC h ar
theorem s6{p q:cU}(c:p.b x y=a)(M:q.b x y=b)(h:a=b):hQ x y [q.a p 0,p.a q 0]:=Rk (ow c M<|jm h)<|ow M c<|jm h.symm
theorem fD.k(o:fD):(o.n x y->hQ x y (o.o an))/\(¬o.n x y->hQ x y (o.o ax)):=by induction o with|g m n=>exact⟨λl=>fZ<|ow (cJ.t m) (cJ.t n)<|eb.mpr l,λl=>fZ<|mn (cJ.t n) (cJ.t m)<|eN.mpr<|EM l⟩|e m n=>exact⟨λl=>fZ<|mn (cJ.t m) (cJ.t n)<|eN.mpr l,λl=>fZ<|ow (cJ.t n) (cJ.t m)<|eb.mpr<|tN l⟩|a m n=>exact⟨λl=>s6 (cJ.t m) (cJ.t n)<|aW ig l,λp=>np⟩|h m n=>exact⟨λp=>np,λl=>s6 (cJ.t m) (cJ.t n)<|aW ig<|Em.mp l⟩|d m n=>exact⟨λl=>fZ<|ow (cs.t m) (cs.t n) l,λl=>fZ<|mn (cs.t n) (cs.t m)<|qM.mp l⟩|b m n=>exact⟨λl=>fZ<|mn (cs.t m) (cs.t n) l,λl=>fZ<|ow (cs.t n) (cs.t m)<|gW.mp l⟩|c m n=>exact⟨λl=>s6 (cs.t m) (cs.t n) l,λp=>np⟩|j m n=>exact⟨λp=>np,λl=>s6 (cs.t m) (cs.t n)<|Em.mp l⟩|f o q=>exact⟨q.2,λl=>q.1<|Em.mp l⟩|i=>exact⟨λp=>np,λp=>np⟩
def iy:U O->U cU->cU|w::y,p::x=>(p.f w).e<|iy y x|_,_=>⟨[],[],0⟩
theorem AH(w:U O):∀a,hQ x y a->0<=(iy w a).b x y:=by induction w with|nil=>exactλc c=>jm (cU.j 0).symm|cons w e d=>intro a h;induction a using gn with|nil=>exact jm (cU.j 0).symm|cons p a=>exact((cU.i _ _).trans<|it (cU.h _ _) I).symm▸R4 (Sc (eT w)<|h p<|bu ..) (d a (EG.mp h).2)
theorem Ib(l:U am):∀x:U O,(l.all (a0<|·<=0))=an->jI l (x.map ig)<=0:=by induction l with|nil=>exactλp p=>gz _|cons c r d=>intro x h;induction x using gn with|nil=>exact gz _|cons a s=>exact R5 (Int.mul_nonpos_of_nonpos_of_nonneg (fa (eS.mp h).1)<|eT a)<|d s (eS.mp h).2
theorem Ia(l:U am):∀y:U am,(l.all (a0<|·=0))=an->jI l y=0:=by induction l with|nil=>exactλp p=>I|cons c r d=>intro y h;induction y using gn with|nil=>rfl|cons a s=>exact it ((aW (·*a)<|fa (eS.mp h).1).trans<|Sg a)<|d s (eS.mp h).2
def i5(p:cU):ba:=p.g.all (a0<|·<=0)&&(p.d.all (a0<|·=0)&&a0 (p.c<0))
theorem Av(h:i5 p=an)(a:0<=p.b x y):bW:=aM (eS.mp h) λA i=>aM (eS.mp i) λi Q=>aA (ey a<|En (R5 (Ib p.g x A)<|jm<|Ia p.d y i) p.c)<|qM.mpr<|(nE p.c).symm▸fa Q
abbrev vW(x:U O)(y:U am)(g:fD):U fD->Prop|[]=>g.n x y|c::r=>c.n x y->vW x y g r
def ja:U fD->U cU|[]=>[]|c::r=>c.o an++ja r
theorem vl(h:hQ x y a)(g:hQ x y b):hQ x y<|a++b:=λp c=>aE (cK.mp c) (h p)<|g p
theorem vX(A:U fD):(hQ x y (ja A)->g.n x y)->vW x y g A:=by induction A with|nil=>exactλh=>h np|cons c r d=>exactλh a=>d λb=>h<|vl (c.k.1 a) b
abbrev wA:O->(U am->Prop)->Prop|0,P=>P []|n+1,P=>∀⦃a:am⦄,wA n λl=>P (a::l)
abbrev wC:O->(U O->Prop)->Prop|0,P=>P []|n+1,P=>∀⦃a:O⦄,wC n λl=>P (a::l)
theorem wB:∀{P:U am->Prop},(∀l,P l)->wA n P:=by induction n with|zero=>exactλh=>h []|succ n d=>exactλh a=>d λl=>h<|a::l
theorem wD:∀{P:U O->Prop},(∀l,P l)->wC n P:=by induction n with|zero=>exactλh=>h []|succ n d=>exactλh a=>d λl=>h<|a::l
end
end
end Lin
section
open Lin
variable{x:U O}{y:U am}
mutual
abbrev ap(n m:O)(A:U fD)(g:fD):Prop:=wC n λx=>wA m λy=>vW x y g A
theorem vk(h:∀x y,hQ x y (ja A)->g.n x y):ap n m A g:=wD λx=>wB λy=>vX A<|h x y
theorem pX{g:fD}(h:i5 (iy w<|g.o ax++l)=an)(a:hQ x y l):g.n x y:=jl λb=>Av h<|AH w _<|vl (g.k.2 b) a
theorem aq(w:U O)(h:i5 (iy w<|g.o ax++ja A)=an):ap n m A g:=vk λx y=>pX h
theorem dR{n m:O}(w v:U O)(h:i5 (iy w<|(fD.g c b).o ax++ja A)=an)(e:i5 (iy v<|(fD.g b c).o ax++ja A)=an):ap n m A<|.a c b:=vk λx y d=>tM (pX h d)<|pX e d
theorem c8{n m:O}(w v:U O)(h:i5 (iy w<|(fD.d a b).o ax++ja A)=an)(e:i5 (iy v<|(fD.d b a).o ax++ja A)=an):ap n m A<|.c a b:=vk λx y d=>tE (pX h d)<|pX e d
theorem so{g:fD}(h:i5 (iy w<|p::(g.o ax++l))=an)(a:0<=p.b x y)(o:hQ x y l):g.n x y:=jl λb=>Av h<|AH w _<|EG.mpr ⟨a,vl (g.k.2 b) o⟩
theorem sZ{n m:O}{g:fD}{a b:cJ}(w v:U O)(d:i5 (iy w<|b.o.a a.o (-1)::(g.o ax++ja A))=an)(e:i5 (iy v<|a.o.a b.o (-1)::(g.o ax++ja A))=an):ap n m (.h a b::A) g:=wD λx=>wB λy=>λf=>vX A λc=>aE (Nat.lt_or_gt_of_ne f) (λl=>so d (mn (cJ.t a) (cJ.t b)<|eN.mpr l) c) λl=>so e (mn (cJ.t b) (cJ.t a)<|eN.mpr l) c
theorem ku{n m:O}{g:fD}{a b:cs}(w v:U O)(h:i5 (iy w<|b.o.a a.o (-1)::(g.o ax++ja A))=an)(d:i5 (iy v<|a.o.a b.o (-1)::(g.o ax++ja A))=an):ap n m (.j a b::A) g:=wD λx=>wB λy=>λe=>vX A λc=>aE (Ep e) (λl=>so h (mn (cs.t a) (cs.t b) l) c) λl=>so d (mn (cs.t b) (cs.t a) l) c
end
end
mutual
theorem qh:-a<=ao a:=by rw[<-du];exact oY
theorem s4{x:am}{n:O}(h:x<n)(a:-x<n):ao x<n:=aE (xo x) (λe=>eN.mp<|e▸h) λe=>eN.mp (by rw[e,fl]at a;exact a)
theorem zU:ap 3 0 [.e .a<|.h .b,.e .f .a]<|.e .f .b:=aq [1,1,1] I
theorem sb:ap 0 1 [.c (.r .a) .k]<|.c .a<|.c<|-1:=c8 [1,0,1] [1,1] I I
theorem FZ:ap 1 0 []<|.f<|.c .g<|.c<|-1:=aq [1] I
theorem F4:ap 1 0 []<|.d .g<|.h .g:=aq [1] I
theorem y1:ap 1 1 [.c .a .i]<|.d .a .g:=aq [1,1] I
theorem r4:ap 1 0 []<|.c (.d (.p<|.h .a) .k) .g:=c8 [1] [1] I I
theorem zl:ap 2 0 [.g .k .a,.a .a .b,.a .b .i] .i:=aq [1,1,0,1] I
theorem Gq:ap 1 0 []<|.f<|.f<|.b .g<|.p<|.h .a:=aq [1] I
theorem l1:ap 2 0 [.h .a<|.h .b,.g .a<|.h .b]<|.g .a .b:=sZ [1,1] [1,0,1] I I
theorem zA:ap 1 0 [.g (.h .a)<|.c 4]<|.g (.h .a)<|.c 5:=aq [1,1] I
theorem Gt:ap 1 0 []<|.f<|.b (.p<|.h .a)<|.p<|.h .a:=aq [1] I
theorem u3:ap 1 0 [.g .a<|.c 4]<|.e .a<|.c 64:=aq [1,1] I
theorem zW:ap 2 0 []<|.e .a<|.e .a<|.h .b:=aq [1] I
theorem Gw:ap 1 0 []<|.c (.e .k .g)<|.p<|.h .a:=c8 [1] [1] I I
theorem Gy:ap 1 0 []<|.d .i<|.d (.p<|.h .a) .k:=aq [1] I
theorem z3:ap 0 1 [.j .a .i,.c .a<|.r .a] .i:=ku [2,0,1] [2,1] I I
theorem GA:ap 1 1 []<|.d (.d .g .g)<|.d .a .a:=aq [1] I
theorem z8:ap 2 1 [.g .a .k]<|.d (.d (.p<|.e .b .a) .j)<|.d (.h .a) .a:=aq [1,1] I
theorem mV:ap 2 0 [.g .a .b,.g .b<|.c 4]<|.g .a<|.c 1000:=aq [1,1,1] I
theorem pG:ap 3 0 [.g .a<|.c 4,.a .a<|.e .b<|.h .f]<|.g .b<|.c 4:=aq [1,1,0,1] I
theorem pH:ap 1 0 [.b .g .g] .i:=aq [1] I
theorem vc:ap 2 0 [.g .a<|.c 4,.g .b .a]<|.g .b<|.c 100:=aq [1,1,1] I
theorem z9:ap 1 0 [.g .a<|.c 4]<|.g .a<|.c 20:=aq [1,1] I
theorem Aa:ap 2 0 [.g .a<|.c 100,.a .b<|.e .a<|.c 2]<|.g .b<|.c 1000:=aq [1,1,1] I
theorem vd:ap 2 0 [.a .a<|.e .b<|.c 2]<|.e .k .a:=aq [1,0,1] I
theorem GB:ap 1 0 []<|.c (.e (.c 2) .g)<|.p<|.e .a<|.c 2:=c8 [1] [1] I I
theorem Ab:ap 3 0 [.a .a<|.e .b<|.c 2,.e .f .b]<|.e (.e .f<|.c 2) .a:=aq [1,0,1,1] I
theorem ve:ap 1 0 []<|.d .i<|.h .g:=aq [1] I
theorem sc:ap 1 0 []<|.c .g<|.e .i .g:=c8 [1] [1] I I
theorem vf:ap 2 1 [.c .a .g,.b .a .j]<|.e .a .b:=aq [1,0,1,1] I
theorem GC:ap 0 1 []<|.d .a<|.h .a:=aq [1] I
theorem vg:ap 1 0 []<|.f<|.f<|.j .g<|.c<|-1:=aq [1] I
theorem Ac:ap 1 1 [.d .a .g,.f<|.b .a .g]<|.c .a .g:=c8 [1,1] [1,0,1] I I
theorem Ad:ap 1 0 [.c (.c<|-1) .g] .i:=aq [0,1] I
theorem yR:ap 1 0 [.e .i .a]<|.j .g .i:=aq [1,0,1] I
theorem yS:ap 2 1 [.c .g .a,.c .j .a]<|.a .a .b:=dR [1,1,0,0,1] [1,0,1,1] I I
theorem uI:ap 2 0 [.e .a .b,.d .j .g] .i:=aq [1,1] I
theorem FU:ap 1 0 []<|.h (.h .a) .a:=aq [1] I
theorem FV:ap 1 0 []<|.h (.e .a<|.c 2) .a:=aq [1] I
theorem FW:ap 1 0 []<|.h (.e .a<|.c 3) .a:=aq [1] I
theorem yT:ap 2 0 [.e .a .b]<|.h .a<|.h .b:=aq [0,1,1] I
theorem FX:ap 1 0 []<|.h .a<|.h .a:=aq [0,1] I
theorem FY:ap 1 0 []<|.h (.e .a<|.c 2)<|.h .a:=aq [1] I
theorem uJ:ap 1 0 []<|.h (.e .a<|.c 3)<|.h .a:=aq [1] I
theorem r1:ap 2 0 [.e .a .b]<|.h .a<|.e .b<|.c 2:=aq [0,1,1] I
theorem uK:ap 1 0 []<|.h .a<|.e .a<|.c 2:=aq [0,1] I
theorem yU:ap 1 0 []<|.h (.h .a)<|.e .a<|.c 2:=aq [0,1] I
theorem F0:ap 1 0 []<|.h (.e .a<|.c 3)<|.e .a<|.c 2:=aq [1] I
theorem F1:ap 1 0 []<|.h .a<|.e .a<|.c 3:=aq [0,1] I
theorem F2:ap 1 0 []<|.h (.h .a)<|.e .a<|.c 3:=aq [0,1] I
theorem F3:ap 1 0 []<|.h (.e .a<|.c 2)<|.e .a<|.c 3:=aq [0,1] I
theorem yV:ap 2 0 [.d .g .j,.e .b .a] .i:=aq [1,1] I
theorem F5:ap 1 0 []<|.b .g<|.p<|.h .a:=aq [1] I
theorem uL:ap 2 0 [.g .a<|.c 4,.g .b<|.h .a]<|.g .b<|.c 100:=aq [1,1,1] I
theorem yW:ap 2 0 [.g .a<|.c 4,.g .b<|.h .a]<|.g .b<|.c 20:=aq [1,1,1] I
theorem yX:ap 0 1 [.b .i .a,.c .a .i] .i:=aq [1,1] I
theorem yY:ap 3 0 [.e .a .b,.g .b .f]<|.e .a .f:=aq [1,1,1] I
theorem F6:ap 1 0 []<|.g .a<|.e .a<|.c 2:=aq [1] I
theorem r2:ap 1 1 [.d .g .a,.b .a .g] .i:=aq [1,1] I
theorem yZ:ap 1 0 [.e .a<|.c 60]<|.e .a<|.c 100:=aq [1,1] I
theorem y0:ap 1 0 [.g .a<|.c 50]<|.e .a<|.c 1000:=aq [1,1] I
theorem n1:ap 1 0 [.g .a<|.c 50]<|.g (.h .a)<|.c 1000:=aq [1,1] I
theorem F7:ap 1 0 []<|.b .i<|.p<|.h .a:=aq [1] I
theorem uM:ap 2 0 [.g .a .b,.g .b<|.c 4]<|.g .a<|.c 100:=aq [1,1,1] I
theorem uN:ap 1 0 [.e .a<|.c 60]<|.g (.h .a)<|.c 100:=aq [1,1] I
theorem y2:ap 1 0 []<|.b .k<|.p<|.e .a<|.c 2:=aq [1] I
theorem F8:ap 1 0 []<|.f<|.c (.p<|.e .a<|.c 2) .k:=aq [1] I
theorem uO:ap 1 0 [.g .a<|.c 50]<|.g .a<|.c 1000:=aq [1,1] I
theorem y3:ap 1 1 [.j .a .g,.d .g .a]<|.d (.p<|.h .a) .a:=ku [1,0,1] [1,1] I I
theorem uP:ap 1 1 [.j .a .g,.b .a<|.p<|.h .a]<|.b .a .g:=ku [1,1] [1,0,1] I I
theorem uQ:ap 1 1 [.b .a .g]<|.b .a<|.p<|.h .a:=aq [1,1] I
theorem uR:ap 1 0 [.c .g<|.c<|-1] .i:=aq [1] I
theorem y4:ap 1 1 [.b .g .a,.b .a .g] .i:=aq [1,1] I
theorem y5:ap 2 1 [.e .a .b,.d .a .g]<|.d .a .j:=aq [1,1,1] I
theorem y6:ap 3 0 [.g (.e .a<|.c 4) .b,.g .b .f]<|.e (.e .a<|.c 2)<|.h .f:=aq [1,1,1] I
theorem y7:ap 1 0 [.g .a<|.c 24]<|.g (.h .a)<|.c 100:=aq [1,1] I
theorem F9:ap 1 0 []<|.f<|.c .i<|.p<|.h .a:=aq [0,1] I
theorem Ga:ap 1 0 []<|.b .k<|.p<|.h<|.h .a:=aq [1] I
theorem y8:ap 0 1 [.c .a<|.r .a]<|.c .a .i:=c8 [2,1] [2,0,1] I I
theorem Gb:ap 1 0 []<|.g (.e (.m 2 .a)<|.c 2)<|.e (.m 2 .a)<|.c 3:=aq [1] I
theorem Gc:ap 1 0 []<|.g (.e (.m 2 .a)<|.c 2)<|.e (.m 2 .a)<|.c 2:=aq [1] I
theorem Gd:ap 1 0 []<|.c (.c<|-1)<|.d .g<|.p<|.h .a:=c8 [1] [1] I I
theorem y9:ap 3 0 [.g .a .b,.g .f<|.h .a]<|.g .f<|.h .b:=aq [1,1,1] I
theorem za:ap 1 0 [.g .a<|.c 100]<|.g .a<|.c 1000:=aq [1,1] I
theorem zb:ap 1 0 [.g .a<|.c 10]<|.e .a<|.c 64:=aq [1,1] I
theorem Ge:ap 1 0 []<|.a (.e (.c 2)<|.m 2 .a)<|.m 2<|.h .a:=dR [1] [1] I I
theorem zc:ap 2 0 [.g .a<|.c 4,.e .b .a]<|.g .b<|.c 4:=aq [1,1,1] I
theorem Gf:ap 2 0 []<|.b (.d .g<|.h .g) .j:=aq [1] I
theorem uS:ap 1 0 [.g .a<|.c 10]<|.g .a<|.c 1000:=aq [1,1] I
theorem r3:ap 1 0 [.g .a<|.c 10]<|.g .a<|.c 100:=aq [1,1] I
theorem zd:ap 1 0 [.g .a<|.c 16]<|.g .a<|.c 1000:=aq [1,1] I
theorem uT:ap 1 0 [.g .a<|.c 4]<|.g .a<|.c 100:=aq [1,1] I
theorem uU:ap 1 0 [.g .a<|.c 44]<|.g .a<|.c 50:=aq [1,1] I
theorem Gg:ap 1 0 []<|.c (.h .g)<|.e .k .g:=c8 [1] [1] I I
theorem Gh:ap 1 0 []<|.j (.e .k .g) .i:=aq [1] I
theorem Gi:ap 1 0 []<|.b .i<|.e .k .g:=aq [1] I
theorem ze:ap 1 0 [.g .a<|.c 200]<|.g .a<|.c 1000:=aq [1,1] I
theorem zf:ap 1 0 [.e .a<|.c 58]<|.g (.e .a<|.c 2)<|.c 100:=aq [1,1] I
theorem zg:ap 1 0 [.g .a<|.c 4]<|.g .a<|.c 10:=aq [1,1] I
theorem pD:ap 1 0 [.g (.c 2) .a]<|.g .k .a:=aq [1,1] I
theorem zh:ap 1 0 [.e .a<|.c 11]<|.e (.m 2 .a)<|.c 58:=aq [1,2] I
theorem Gj:ap 1 0 []<|.g (.e (.m 2 .a)<|.c 2)<|.m 2<|.h .a:=aq [1] I
theorem zi:ap 1 0 []<|.g (.e (.c 33) .a)<|.e (.c 33)<|.h .a:=aq [1] I
theorem uV:ap 1 0 [.e .a<|.c 11]<|.g (.e (.c 33)<|.h .a)<|.c 50:=aq [1,1] I
theorem uW:ap 1 0 [.e .a<|.c 11]<|.g (.m 2<|.h .a)<|.c 100:=aq [1,2] I
theorem zj:ap 2 0 [.g .a .b]<|.g .a<|.h .b:=aq [1,1] I
theorem Gk:ap 1 0 []<|.g (.h<|.m 2 .a)<|.m 2<|.h .a:=aq [1] I
theorem Gl:ap 1 0 []<|.g (.h<|.e (.c 33) .a)<|.e (.c 33)<|.h .a:=aq [1] I
theorem Gm:ap 1 0 []<|.g (.m 2 .a)<|.m 2<|.h .a:=aq [1] I
theorem zk:ap 1 0 [.g .a<|.c 11]<|.g (.e (.c 33) .a)<|.c 44:=aq [1,1] I
theorem Gn:ap 1 0 []<|.f<|.a (.h<|.h .a) .a:=aq [1] I
theorem Go:ap 1 0 []<|.g (.c 2)<|.e (.c 2) .a:=aq [1] I
theorem Gp:ap 1 0 []<|.d (.r .g) .i:=aq [1] I
theorem zm:ap 1 0 []<|.a .a .a:=dR [1] [1] I I
theorem n2:ap 3 0 [.a .a .b,.e .f .a]<|.e .f .b:=aq [1,1,0,1] I
theorem kd:ap 2 0 [.a .a<|.h .b]<|.e .i .a:=aq [1,0,1] I
theorem zn:ap 2 1 [.b .a .g,.a .b .a]<|.b .a .j:=aq [1,1,0,1] I
theorem zo:ap 3 0 [.e .a .b,.g .b .f]<|.h .f .a:=aq [1,0,1,1] I
theorem pE:ap 3 0 [.a .a .b,.e .f .b]<|.e .f .a:=aq [1,0,1,1] I
theorem zp:ap 0 1 [.f<|.b .a .i]<|.d .i .a:=aq [1,1] I
theorem zq:ap 4 0 [.a .a .b,.e .f .b,.a .l .f]<|.g .l .a:=aq [1,0,1,1,1] I
theorem zr:ap 0 2 [.f<|.b .a .b]<|.d .b .a:=aq [1,1] I
theorem zs:ap 3 0 [.g .a .b,.a .f .a]<|.g .f .b:=aq [1,1,1] I
theorem Gr:ap 1 1 []<|.c (.h<|.e .a .g)<|.e .a<|.p<|.h .a:=c8 [1] [1] I I
theorem Gs:ap 1 1 []<|.c (.e (.d .a .g)<|.c<|-1)<|.d .a<|.p<|.h .a:=c8 [1] [1] I I
theorem zt:ap 3 0 [.a .a .b,.g .b .f,.g .f .a]<|.a .a .f:=dR [1,1,0,1] [1,0,0,0,1] I I
theorem zu:ap 3 0 [.a .a .b,.g .b .f,.g .f .a]<|.a .f .b:=dR [1,1,0,0,1] [1,0,0,1] I I
theorem zv:ap 2 0 [.g (.h .a) .b]<|.f<|.a .b .a:=aq [1,0,1] I
theorem zw:ap 2 0 [.g (.h .a) .b]<|.g .a .b:=aq [1,1] I
theorem zx:ap 4 0 [.e .a .b,.a .f .a,.a .l .b]<|.g .f .l:=aq [1,1,1,0,0,1] I
theorem uX:ap 2 0 [.e (.e .a<|.m 3 .b)<|.c 900]<|.e (.e .a<|.m 3 .b)<|.c 902:=aq [1,1] I
theorem zy:ap 3 0 [.a .a .b,.a .a .f]<|.a .b .f:=dR [1,0,1,1] [1,1,0,0,1] I I
theorem zz:ap 3 0 [.a .a .b,.a .a .f]<|.g .b .f:=aq [1,0,1,1] I
theorem uY:ap 3 0 [.e (.e .a<|.m 3<|.h .b)<|.c 902,.a .f<|.c 1000]<|.e .a .f:=aq [1,1,0,1] I
theorem uZ:ap 2 0 [.e (.e .a<|.c 2) .b]<|.e .a .b:=aq [1,1] I
theorem u0:ap 2 0 [.a .a .b]<|.g .a .b:=aq [1,1] I
theorem Gu:ap 1 0 []<|.f<|.e (.h<|.h .a)<|.c 2:=aq [1] I
theorem zB:ap 3 0 [.a .a .b,.a .b .f]<|.a .a .f:=dR [1,1,0,1] [1,0,1,0,1] I I
theorem zC:ap 1 0 [.f<|.e .a<|.c 2]<|.g (.c 2) .a:=aq [1,1] I
theorem zD:ap 2 0 [.g .a<|.c 4,.a .a .b]<|.e .b<|.c 64:=aq [1,1,0,1] I
theorem u1:ap 2 1 [.b .a .g,.g .a .b,.a .b<|.c 16777216]<|.b .a<|.c<|2^62:=aq [1,1,1,1] I
theorem r5:ap 2 0 [.g .a<|.c 4,.e .b .a]<|.b .j<|.c<|2^62:=aq [1,1,1] I
theorem Gv:ap 1 0 [.g .a<|.c 3]<|.g (.h .a)<|.c 16777216:=aq [1,1] I
theorem zE:ap 1 0 [.g (.h .a)<|.c 4]<|.g (.h<|.e (.m 2 .a)<|.c 2)<|.c 11:=aq [1,2] I
theorem r6:ap 0 1 [.b .a<|.c<|2^62]<|.b .a<|.c<|2^63:=aq [1,1] I
theorem zF:ap 3 0 [.g .a .b,.a .f .a,.a .b<|.c 16777216]<|.b .s<|.c<|2^63:=aq [1,1,1,0,1] I
theorem r7:ap 2 0 [.e .a<|.c 64,.a .b .a]<|.g .b<|.c 16777216:=aq [1,1,1] I
theorem u2:ap 2 0 [.e .a<|.c 64,.a .a .b]<|.g .b<|.c 16777216:=aq [1,1,0,1] I
theorem mU:ap 0 1 [.b .i .a]<|.d .i .a:=aq [1,1] I
theorem zG:ap 0 1 [.b .i .a]<|.j .a .i:=aq [1,0,1] I
theorem zH:ap 6 0 [.g (.e .a .b) .f,.a .a .l,.a .b .d,.a .g .f]<|.g (.e .l .d) .g:=aq [1,1,0,1,0,1,0,1] I
theorem l2:ap 0 1 [.d .i .a]<|.d .i .a:=aq [1,1] I
theorem n3:ap 2 1 [.b .a .g,.c .j .a]<|.e .b .a:=aq [1,1,1] I
theorem k8:ap 1 0 [.e .i .a]<|.g .k .a:=aq [1,1] I
theorem n4:ap 3 0 [.g .a .b,.a (.h .f) .a]<|.e .f .b:=aq [1,1,1] I
theorem zI:ap 1 0 [.g .k .a]<|.g .k .a:=aq [1,1] I
theorem pF:ap 1 0 [.b .i .g]<|.g .k .a:=aq [1,1] I
theorem zJ:ap 2 0 [.e .a .b]<|.g .a .b:=aq [1,1] I
theorem zK:ap 3 0 [.e .a .b,.e .b .f]<|.g .a .f:=aq [1,1,1] I
theorem zL:ap 5 0 [.e .a .b,.a (.e .f .b) .l,.a (.e .d .a) .l]<|.e .f .d:=aq [1,1,1,0,0,1] I
theorem zM:ap 1 0 [.e .k .a]<|.g .k .a:=aq [1,1] I
theorem zN:ap 0 1 [.f<|.b .i .a]<|.d .a .i:=aq [1,1] I
theorem r8:ap 1 0 []<|.b (.r<|.d .g .k)<|.p<|.c<|2^30:=aq [1] I
theorem zO:ap 3 0 [.a (.e .a .b) .f]<|.c (.d .j .k)<|.d (.d .s .k) .g:=c8 [1,1] [1,0,1] I I
theorem u4:ap 3 0 [.e .a .b,.g .b .f]<|.g (.h .a) .f:=aq [1,1,1] I
theorem k9:ap 1 0 []<|.d .i .g:=aq [1] I
theorem r9:ap 2 0 [.g .a<|.c 4,.c .j .g]<|.e .b<|.c<|2^30:=aq [1,1,1] I
theorem u5:ap 2 0 [.a (.h .a) .b]<|.a .b<|.h .a:=dR [1,0,1] [1,1] I I
theorem zP:ap 2 1 [.e .a .b,.d .a .g]<|.b .a .j:=aq [1,1,1] I
theorem u6:ap 0 1 [.j .a .i,.c (.r .a) .a] .i:=ku [2,1] [2,0,1] I I
theorem sa:ap 2 1 [.c .g<|.d .j .a]<|.c .g<|.d .j .a:=c8 [1,1] [1,0,1] I I
theorem zQ:ap 3 1 [.g .a .b,.e .b .f,.c .a<|.h .g]<|.d .i<|.d .s .a:=aq [1,1,1,1] I
theorem zR:ap 3 2 [.g .a .b,.c .a .s,.b .a .g,.c .b<|.p<|.h .f]<|.d .i<|.d .j .b:=aq [1,1,0,1,1,1] I
theorem zS:ap 2 1 [.d .a .g,.f<|.d .a .j]<|.g .k .a:=aq [1,1,1] I
theorem zT:ap 2 1 [.d .a .g,.f<|.d .a .j,.a (.h .b) .a]<|.c .a .g:=c8 [1,1] [1,0,1,0,1] I I
theorem n5:ap 2 0 [.a (.h .a) .b]<|.c (.d .j .k) .g:=c8 [1,0,1] [1,1] I I
theorem zV:ap 2 0 [.g (.c 2) .a]<|.g .k<|.e .a .b:=aq [1,1] I
theorem u7:ap 1 1 [.c .g .a]<|.c .a .g:=c8 [1,0,1] [1,1] I I
theorem u8:ap 2 0 [.g .a .b]<|.g .a .b:=aq [1,1] I
theorem zX:ap 4 0 [.a .a<|.h .b,.a (.e .a .f) .l]<|.g (.h .f) .l:=aq [1,0,1,1] I
theorem zY:ap 5 0 [.a .a<|.h .b,.a (.e .a .f) .l,.a (.e .d<|.h .f) .l]<|.a .d .b:=dR [1,1,0,0,1,1] [1,0,1,1,0,0,1] I I
theorem zZ:ap 4 0 [.e .a .b,.a .f<|.h .a,.g .b .l]<|.g .f .l:=aq [1,1,1,0,1] I
theorem z0:ap 5 0 [.a .a<|.h .b,.a .f .l,.a (.e .f .a) .d]<|.c (.d (.d .v .k) .j) .u:=c8 [1,1,0,1,0,0,1] [1,0,1,0,1,1] I I
theorem z1:ap 1 0 [.g .a<|.c 24]<|.g .a<|.c 30:=aq [1,1] I
theorem Gx:ap 1 0 []<|.d .g .g:=aq [1] I
theorem u9:ap 1 0 []<|.d .i<|.e .k .g:=aq [1] I
theorem z2:ap 2 0 [.c .g<|.e .k .j]<|.a .a<|.h .b:=dR [1,1] [1,0,1] I I
theorem va:ap 4 0 [.a .a<|.h .b,.a (.e .a .f) .l]<|.e .f .l:=aq [1,0,1,1] I
theorem Gz:ap 1 0 []<|.g .a .a:=aq [1] I
theorem vb:ap 1 1 [.j .a .i,.d .a .g,.d (.r .a) .g]<|.j .g .i:=ku [1,1,0,0,1] [1,1,0,1] I I
theorem z4:ap 3 0 [.g (.e (.m 2 .a)<|.c 2) .b,.e .f<|.e (.m 2 .a)<|.c 2,.a .f .b] .i:=aq [1,1,0,1] I
theorem z5:ap 1 1 [.j .a .i,.d .a .g,.d (.r .a) .g]<|.g .k .a:=ku [1,1,0,1] [1,1,1] I I
theorem z6:ap 0 1 [.d .a .i]<|.d .a .i:=aq [1,1] I
theorem z7:ap 0 3 [.b .a .b,.b .b .f]<|.b .a .f:=aq [1,1,1] I
inductive cN where|b(o c:O)|a(o c i:O)|e(k:O)|f(o:O)
def cN.ctorIdx(l:cN):O:=l.casesOn (λ_ _=>0) (λ_ _ _=>1) (λ_=>2) λ_=>3
inductive V where|d|z|h(c:ba)|a(i:am)|p(s:iW)|g(l:U V)|b(o:O)|x(f c s:am)|e(m:O)|j(l:cN)(n:O)|k(f:O)
def V.ctorIdx(l:V):O:=l.casesOn 0 1 (λ_=>2) (λ_=>3) (λ_=>4) (λ_=>5) (λ_=>6) (λ_ _ _=>7) (λ_=>8) (λ_ _=>9) λ_=>10
theorem V.a.inj(c:V.a B=.a C):B=C:=by cases c;rfl
theorem V.h.inj(c:V.h B=.h C):B=C:=by cases c;rfl
theorem V.p.inj(c:V.p B=.p C):B=C:=by cases c;rfl
theorem V.a.injEq:(V.a B=.a C)=(B=C):=ui ⟨V.a.inj,λc=>c▸I⟩
theorem V.h.injEq:(V.h B=.h C)=(B=C):=ui ⟨V.h.inj,λc=>c▸I⟩
theorem V.p.injEq:(V.p B=.p C)=(B=C):=ui ⟨V.p.inj,λc=>c▸I⟩
theorem V.e.inj(c:V.e B=.e C):B=C:=by cases c;rfl
theorem V.g.inj(c:V.g B=.g C):B=C:=by cases c;rfl
theorem V.g.injEq:(V.g B=.g C)=(B=C):=ui ⟨V.g.inj,λc=>c▸I⟩
theorem V.b.inj(c:V.b B=.b C):B=C:=by cases c;rfl
inductive cd where|n|e(v:V)|c(l:U V)|a(l:U (U V))
inductive b8 where|e(l:U V)|b(l:U (am×V))|a(f:O->V)
structure av where
 c:O->O->cd
 f:O->ba
 e:cN->O
 a:O->a3 b8
 d:O
 m:O->a3 (U am)
def bF{α:Type}(o:a3 α)(k:α->Prop):Prop:=match o with|Y a=>k a|au=>bW
theorem bF.a{o:a3 α}{k:α->Prop}(h:bF o k):∃c,o=Y c/\k c:=by induction o with|none=>exact be h|some c=>exact⟨c,I,h⟩
theorem bF.f{o:a3 α}{k G:α->Prop}(h:bF o k)(m:∀c,k c->G c):bF o G:=by induction o with|none=>exact h|some c=>exact m c h
def bi:O:=16777216
def cd.d(f:cd)(r:O->V):a3<|U V:=match f with|.c l=>Y l|.a x=>Y<|(b2 (Z x)).map r|_=>au
def cd.b{α:Type}(f:cd)(k:U (U V)->a3 α):a3 α:=match f with|.a x=>k x|_=>au
def cd.f{α:Type}(b:cd)(k:U V->a3 α)(G:U (U V)->a3 α):a3 α:=match b with|.c l=>k l|.a x=>G x|_=>au
def cd.q(f:cd)(r:V):V:=match f with|.n=>.d|.e q=>q|_=>r
def jU{α:Type}(x:a3 b8)(k:U V->a3 α):a3 α:=match x with|Y (.e l)=>k l|_=>au
def w9{α:Type}(x:a3 b8)(k:U (am×V)->a3 α):a3 α:=match x with|Y (.b l)=>k l|_=>au
def iG{α:Type}(x:a3 b8)(k:U V->a3 α)(G:U (am×V)->a3 α):a3 α:=match x with|Y (.e l)=>k l|Y (.b l)=>G l|_=>au
def V.o{α:Type}(v:V)(c:O->a3 α):a3 α:=match v with|.e i=>c i|_=>au
theorem V.t{c:O->a3 α}:(V.e B).o c=c B:=I
def av.j(N:av)(o a:O):V:=(N.c o a).q<|.j (.b o a)<|N.e<|.b o a
def av.g(N:av):cN->a3 b8|.b o c=>((N.c o c).d λi=>V.j (.a o c i)<|N.e<|.a o c i).map .e|.a o c i=>(N.c o c).b λx=>(x[i]?).map .e|.e k=>iG (N.a k) (λl=>Y<|.e l) λl=>Y<|.b l|.f o=>if N.f o=an then Y (.a λc=>N.j o c)else au
def av.n(N:av)(o a:O):a3 V:=match N.j o a with|.d=>au|v=>Y v
def av.i(N:av):V->a3 (U V)|.e h=>jU (N.a h) Y|.j (.b o c) g=>if g=N.e (.b o c)then(N.c o c).d λf=>V.j (.a o c f) (N.e<|.a o c f)else au|.j (.a o c f) g=>if g=N.e (.a o c f)then(N.c o c).b λx=>x[f]?else au|.k c=>(N.m c).map λl=>l.map V.a|_=>au
def av.r(N:av)(v:V):a3<|U<|am×V:=v.o λk=>w9 (N.a k) Y
def aw{α:Type}(f:O->α)(i:O)(x:α):O->α:=λj=>if j=i then x else f j
def dh(F:O->O->cd)(o a:O)(x:cd):O->O->cd:=λy b=>if y=o/\b=a then x else F y b
def ff(g:cN->O)(l:cN):cN->O:=λx=>if x=l then g x+1 else g x
def dz(g:cN->O)(o d:O):cN->O:=λl=>match l with|.b y c=>if y=o/\c=d then g l+1 else g l|.a y c _=>if y=o/\c=d then g l+1 else g l|l=>g l
def V.f:V->Prop|.d=>bW|.e _=>bW|.j _ _=>bW|.k _=>bW|_=>im
def V.A:V->Prop|.d|.e _|.j _ _|.k _=>bW|_=>im
def dA(l:U V):Prop:=∀v∈l,v.f
def av.b(N:av)(x:b8):av:={N with a:=aw N.a N.d<|Y x,d:=N.d+1}
def mm:O->O->ba|0,6=>an|0,12=>an|_,_=>ax
def av.t(N:av):U V->a3 (U<|U V)|[]=>Y []|v::r=>v.o λk=>jU (N.a k) λl=>(N.t r).bind λx=>if dA l then Y (l::x)else au
theorem Bt{N:av}:N.t []=Y []:=I
theorem Bs{N:av}:N.t (v::r)=v.o λk=>jU (N.a k) λl=>(N.t r).bind λx=>if dA l then Y (l::x)else au:=I
def eL:U V->U O|[]=>[]|.e k::r=>k::eL r|_::r=>eL r
def i8(T:O->a3 b8)(b:U O):O->a3 b8:=λk=>if k∈b then au else T k
def av.l(N:av)(o f:O)(v:V):a3<|V×av:=if N.f o=an then match v with
 |.e h=>jU (N.a h) λg=>match mm o f with|an=>(N.t g).bind λx=>if(b0 (h::eL g))then Y (.j (.b o f)<|N.e (.b o f)+1,{N with c:=dh N.c o f<|.a x,e:=dz N.e o f,a:=i8 N.a<|h::eL g})else au|ax=>if dA g then Y (.j (.b o f)<|N.e (.b o f)+1,{N with c:=dh N.c o f<|.c g,e:=dz N.e o f,a:=aw N.a h au})else au
 |.d=>au
 |.j _ _=>au
 |.k _=>au
 |v=>Y (v,{N with c:=dh N.c o f<|.e v,e:=dz N.e o f})else au
def av.s(N:av)(x:V)(i:am)(v:V):a3<|V×av:=match x with|.e k=>iG (N.a k) (λl=>if 0<=i/\i<Z l/\v.f then Y (v,{N with a:=aw N.a k<|Y<|.e<|l.set (bM i) v})else au) λd=>if v.f/\Z d<bi then Y (v,{N with a:=aw N.a k<|Y<|.b<|if d.any (λp=>p.1==i)then d.map (λp=>if p.1=i then(p.1,v)else p)else d++[(i,v)]})else au|.j (.b o h) g=>if g=N.e (.b o h)then(N.c o h).f (λl=>if 0<=i/\i<Z l/\v.f then Y (v,{N with c:=dh N.c o h<|.c<|l.set (bM i) v})else au) (λm=>v.o λk=>jU (N.a k) λl=>if 0<=i/\i<Z m/\dA l then Y (.j (.a o h (bM i))<|N.e (.a o h (bM i))+1,{N with c:=dh N.c o h<|.a<|m.set (bM i) l,e:=ff N.e<|.a o h (bM i),a:=aw N.a k au})else au)else au|.j (.a o h n) g=>if g=N.e (.a o h n)then(N.c o h).b λm=>(m[n]?).bind λl=>if 0<=i/\i<Z l/\v.f then Y (v,{N with c:=dh N.c o h<|.a<|m.set n<|l.set (bM i) v})else au else au|_=>au
def av.p(N:av)(x:V)(l:U V):a3 av:=match x with|.e k=>Y {N with a:=aw N.a k<|Y<|.e l}|.j (.b o d) _=>(N.c o d).f (λg=>Y {N with c:=dh N.c o d<|.c l}) λg=>au|.j (.a o d h) _=>(N.c o d).b λi=>Y {N with c:=dh N.c o d<|.a<|i.set h l}|_=>au
def av.v(N:av)(x a:V):a3 av:=(N.i x).bind λl=>if a.f/\Z l<bi then N.p x (l++[a])else au
def av.o(N:av)(x v:V):a3 av:=match x with|.j (.b d h) g=>if g=N.e (.b d h)then(N.c d h).f (λl=>if v.f/\Z l<bi then Y {N with c:=dh N.c d h<|.c<|l++[v]}else au) (λi=>v.o λk=>jU (N.a k) λl=>if dA l/\Z i<bi then Y {N with c:=dh N.c d h<|.a<|i++[l],e:=ff N.e<|.a d h (Z i),a:=aw N.a k au}else au)else au|x=>N.v x v
set_option tactic.hygienic true in inductive a5 where|d|b(a h:a5)|c(i:O)|s(v:V)|q(a':O)|f(k:a5)(A a:O)|w(E:E7)(k:a5)|G(E:E4)(a h:a5)|Q(k b' c':a5)|m(E:xY)(a h:a5)|l(E:o9)(a h:a5)|R(d' e':o9)(a h L:a5)|t(a h:a5)|B(a h:a5)|D(L a h:a5)|e(p:a5)|g(p:a5)|S|x(a h f':a5)|M(k:a5)(z:O)|W(k A:a5)(z:O)(g':ba)|y(i:O)(H K:a5)|C(i:O)(H L K:a5)|T(i X:O)(H K:a5)|N(i:O)(H:a5)(X:O)(h' K:a5)|r(z:O)(p:a5)|j(k:a5)(A z:O)(p:a5)|u(A z:O)(p:a5)|P(z:O)(p:a5)|o(k n:a5)|F(k n:a5)
@[reducible]def a5.z:a5:=.s .z
@[reducible]def a5.h(a:ba):a5:=.s<|.h a
@[reducible]def a5.a(h:am):a5:=.s<|.a h
@[reducible]def a5.p(a:iW):a5:=.s<|.p a
@[reducible]def a5.v(a:a5):a5:=.w rp a
@[reducible]def a5.K(a:a5):a5:=.w ro a
@[reducible]def a5.X(a:a5):a5:=.w rg a
@[reducible]def a5.aa(a:a5):a5:=.w rs a
@[reducible]def a5.A(a:a5):a5:=.w rf a
@[reducible]def a5.k(a:a5):a5:=.w pg a
@[reducible]def a5.n(a:a5):a5:=.w rj a
@[reducible]def a5.E(a:a5):a5:=.w rk a
@[reducible]def a5.ac(a:a5):a5:=.w rl a
@[reducible]def a5.H(a:a5):a5:=.w rn a
@[reducible]def a5.L(a:a5):a5:=.w rm a
@[reducible]def a5.ag(a:a5):a5:=.w rq a
@[reducible]def a5.ad(a:a5):a5:=.w rr a
@[reducible]def a5.ae(a:a5):a5:=.w re a
@[reducible]def a5.ah(a:a5):a5:=.w rh a
@[reducible]def a5.aj(a:a5):a5:=.w ri a
@[reducible]def a5.i(a h:a5):a5:=.G q9 a h
@[reducible]def a5.af(a h:a5):a5:=.G rc a h
@[reducible]def a5.ab(a h:a5):a5:=.G rb a h
@[reducible]def a5.ak(a h:a5):a5:=.G q8 a h
@[reducible]def a5.ai(a h:a5):a5:=.G ra a h
@[reducible]def a5.al(a h:a5):a5:=.G .log a h
inductive fT where|d|b(c h:fT)|a(g:O)|f(e:a5)(o c:O)|i(e g:a5)
def fT.k:fT->O|.b _ c=>c.k+1|_=>0
inductive bo where|e|d(p m:bo)|b(t:fT)(n:a5)|f(n:a5)|a(n:a5)|c(q:a5)(p m:bo)|h(q:a5)(m:bo)|g(t:fT)(n:a5)(m:bo)|j|k|i|l(r:O)(o:a5)(s:O)(u:ba)
inductive dk where|b|d|e|c(v:V)
abbrev ei:=O->U V->(V->av->Prop)->av->Prop
def c5(L:U V)(i:O):a3 V:=match L[i]?with|Y .d=>au|r=>r
def iu(l:U V):Prop:=∀v∈l,∃i,v=.a i
def wQ(l:U V):Prop:=∀v∈l,∃i:O,v=.a i/\1<=i/\i<=4
def ge(l:U V):Prop:=∀v∈l,∃b,v=.h b
inductive gP:V->V->Prop|a(i e:am):gP (.a i)<|.a e|h(i e:ba):gP (.h i)<|.h e|p(c d:iW):gP (.p c)<|.p d|z:gP .z .z|j{c d:U V}(f:iu c)(k:iu d):gP (.g c)<|.g d|b{c d:U V}(f:ge c)(k:ge d):gP (.g c)<|.g d
def V.c(v:V)(f:am->Prop):Prop:=match v with|.a i=>f i|_=>bW
def V.l(v:V)(f:ba->Prop):Prop:=match v with|.h c=>f c|_=>bW
def V.i(v:V)(f:U V->Prop):Prop:=match v with|.g l=>f l|_=>bW
def V.n(v:V)(f:U V->Prop)(A:Prop):Prop:=match v with|.g l=>f l|_=>A
def V.u(v:V)(f:V->V->Prop):Prop:=match v with|.g [c,y]=>f c y|_=>bW
def V.s(v:V)(f:V->U V->Prop):Prop:=match v with|.g (c::R)=>f c R|_=>bW
def ix(b:ba)(A B:Prop):Prop:=match b with|an=>A|ax=>B
def oB{α:Type}(r:a3 α)(A:Prop)(f:α->Prop):Prop:=match r with|au=>A|Y v=>f v
def dk.f(a:dk)(A B:Prop)(g:V->Prop):Prop:=match a with|.b=>A|.e=>A|.d=>B|.c v=>g v
def dk.g(f:dk)(A B:Prop):Prop:=match f with|.b=>A|_=>B
def dk.a(f:dk)(A:Prop)(g:V->Prop):Prop:=match f with|.c v=>g v|.b=>A|_=>bW
def vj(x y:V)(Q:V->av->Prop)(N:av):Prop:=match x with|.a i=>y.c λj=>Q (.a<|i+j) N|.g c=>y.i λb=>Z c+Z b<=bi/\Q (.g<|c++b) N|x=>bF (N.i x) λc=>bF (N.i y) λb=>Z c+Z b<=bi/\Q (.e N.d) (N.b<|.e<|c++b)
def ke(F:xY)(x y:V)(Q:V->av->Prop)(N:av):Prop:=match F with|cY=>vj x y Q N|dK=>x.c λi=>y.c λj=>Q (.a<|i-j) N|lN=>x.c λi=>y.c λj=>ao i<2^60/\Q (.a<|i*j) N|g4=>x.c λi=>y.c λj=>(0<j/\j<1073741824)/\Q (.a<|i/j) N|hL=>x.c λi=>y.c λj=>0<j/\Q (.a<|i%j) N
def av.u(N:av):V->a3 (U V)|.g l=>Y l|x=>match N.i x with|Y l=>Y l|au=>(N.r x).map λd=>d.map λp=>.a p.1
def av.k(N:av)(x:V):a3<|U V:=match N.i x with|Y l=>Y l|au=>(N.r x).map λd=>d.map λp=>.a p.1
def mf(N:av)(y:V)(l:U V)(x:V):Prop:=(∀z∈l,gP z x)/\((N.r y).isSome=an->∃i,x=.a i)
def iz(F:o9)(x y:V)(Q:V->av->Prop)(N:av):Prop:=match F with|cB=>gP x y/\Q (.h<|a0<|x=y) N|dj=>gP x y/\Q (.h<|a0<|x≠y) N|g0=>x.c λi=>y.c λj=>Q (.h<|a0<|i<j) N|pa=>x.c λi=>y.c λj=>Q (.h<|a0<|i<=j) N|d1=>x.c λi=>y.c λj=>Q (.h<|a0<|j<i) N|ij=>x.c λi=>y.c λj=>Q (.h<|a0<|j<=i) N|fp=>bF (N.u y) λl=>mf N y l x/\Q (.h<|a0<|x∈l) N|mC=>bF (N.u y) λl=>mf N y l x/\Q (.h<|a0<|x∉l) N
def av.q(N:av)(d:V)(i:O):a3<|a3 V:=match d with|.g l=>Y l[i]?|.x c b s=>if 0<s then Y (if c+s*i<b then Y (.a<|c+s*i)else au)else if s<0 then Y (if b<c+s*i then Y (.a<|c+s*i)else au)else au|e=>(N.i e).map λl=>l[i]?
def iC(a:V)(body:V->U V->(U V->av->Prop)->av->Prop):O->O->U V->(U V->av->Prop)->av->Prop|0,_,_,_,_=>bW|n+1,i,h,Q,N=>bF (N.q a i) λr=>oB r (Q h N) λv=>body v h (λq A=>iC a body n (i+1) q Q A) N
def jb:V->V->Prop|.a i,.a j=>i<=j|.g [.a e,.a b],.g [.a c,.a d]=>e<c\/(e=c/\b<=d)|.g [.a e,.h b],.g [.a c,.h d]=>e<c\/(e=c/\(b=an->d=an))|_,_=>bW
def nf(c:U V):Prop:=(∀k∈c,∃i j,k=.g [.a i,.a j])\/(∀k∈c,∃i b,k=.g [.a i,.h b])
def hc(a:ba)(b R T:U V):Prop:=∃x:U (V×V),x.Perm (b.zip R)/\T=x.map iT/\x.Pairwise λp q=>if a=an then jb q.1 p.1 else jb p.1 q.1
def iB(C:ei)(f:O)(n:U V):U V->(U V->av->Prop)->av->Prop|[],Q,N=>Q [] N|x::r,Q,N=>C f (n++[x]) (λk A=>iB C f n r (λb G=>Q (k::b) G) A) N
def mc:O->V|0=>.a 0|1=>.a 1|2=>.a<|-1|3=>.a<|-1|4=>.a 1024|5=>.a 20|6=>.g [.p "input",.p "define",.p "ite_term",.p "three",.p "bits",.p "congruence",.p "farkas",.p "branch",.p "divide",.p "cut",.p "resolve"]|_=>.d
def tu(F:E7)(v:V)(Q:V->av->Prop)(N:av):Prop:=match F with|rp=>v.c λi=>Q (.a<|-i) N|ro=>Q (.h<|a0<|v=.z) N|rg=>Q (.h<|a0<|v≠.z) N|rs=>bF (N.i v) λl=>Z l<=bi/\Q (.h<|a0<|l=[]) {N with d:=N.d}|rf=>v.l λb=>Q (.h<|!b) N|pg=>v.n (λl=>Z l<=bi/\Q (.a (Z l)) N)<|bF (N.i v) λl=>Z l<=bi/\Q (.a (Z l)) N|rj=>v.c λi=>Q (.a (ao i)) N|rk=>v.n (λl=>Q (.g l) N)<|bF (N.i v) λl=>dA l/\Z l<=bi/\Q (.g l) N|rl=>v.i λl=>Z l<=bi/\Q (.e N.d) (N.b<|.e l)|rn=>bF (N.i v) λl=>ge l/\Z l<=bi/\Q (.h<|a0<|V.h an∈l) N|rm=>bF (N.i v) λl=>ge l/\Z l<=bi/\Q (.h<|a0<|V.h ax∉l) N|rq=>v.i λp=>Q (.h an) N|rr=>v.i λl=>iu l/\Z l<64/\∀n:O,(∃f:U V,b0 f/\(∀x,x∈f↔x∈l)/\Z f=n)->Q (.a n) N|re=>bF (N.i v) λl=>wQ l/\Z l<64/\∀T:U V,(∀x,x∈T↔x∈l)->(b0 T)->T.Pairwise jb->Q (.e N.d) (N.b<|.e T)|rh=>bF (N.k v) λl=>iu l/\Z l<64/\∀T,hc ax l l T->Q (.e N.d) (N.b<|.e T)|ri=>bF (N.i v) λc=>dA c/\Z c<=bi/\bF c.getLast? λx=>bF (N.p v (iM c)) λA=>Q x A
def sj(F:E4)(v w:V)(Q:V->av->Prop)(N:av):Prop:=match F with|q9=>w.c λj=>v.n (λl=>0<=j/\j<2^62/\bF (l[(bM j)]?) λr=>Q r N)<|bF (N.i v) λl=>-(Z l:am)<=j/\j<2^62/\Z l<=bi/\bF (l[(bM (if j<0 then j+Z l else j))]?) λr=>Q r N|rc=>w.c λj=>bF (N.i v) λl=>0<=j/\j<2^62/\Z l<=bi/\Q (.e N.d) (N.b<|.e<|l.take (bM j))|rb=>w.c λj=>bF (N.i v) λl=>0<=j/\j<2^62/\Z l<=bi/\Q (.e N.d) (N.b<|.e<|l.drop (bM j))|q8=>v.c λi=>w.c λj=>Q (.a<|if i<j then j else i) N|ra=>v.c λi=>w.c λj=>Q (.a<|if j<i then j else i) N|.log=>v.c λi=>w.f/\Q (.e N.d) (N.b<|.b [(i,w)])
@[reducible]def gf(f:V->(V->av->Prop)->av->Prop)(Q:V->av->Prop):V->av->Prop:=λv=>f v Q
@[reducible]def sO(f:V->V->(V->av->Prop)->av->Prop)(v:V)(Q:V->av->Prop):V->av->Prop:=λw=>f v w Q
@[reducible]def on(F:(V->av->Prop)->av->Prop)(f:V->V->(V->av->Prop)->av->Prop)(Q:V->av->Prop):V->av->Prop:=λv=>F<|sO f v Q
@[reducible]def HR(v w:V)(Q:V->av->Prop)(N:av):Prop:=w.i λl=>Q (.g<|v::l) N
@[reducible]def G4(o a:O)(v:V)(Q:V->av->Prop)(N:av):Prop:=v=.b o/\bF (N.n o a) λr=>Q r N
@[reducible]def Hk(R j:o9)(G:(V->av->Prop)->av->Prop)(x y:V)(Q:V->av->Prop)(N:av):Prop:=iz R x y (λr u=>r.l λb=>ix b (G (sO (iz j) y Q) u)<|Q (.h ax) u) N
@[reducible]def GL(F:(V->av->Prop)->av->Prop)(x:V)(Q:V->av->Prop)(N:av):Prop:=x.l λr=>ix r (F Q N)<|Q (.h ax) N
@[reducible]def Ns(F:(V->av->Prop)->av->Prop)(x:V)(Q:V->av->Prop)(N:av):Prop:=x.l λr=>ix r (Q (.h an) N)<|F Q N
@[reducible]def Ke(F G:(V->av->Prop)->av->Prop)(x:V)(Q:V->av->Prop)(N:av):Prop:=x.l λr=>ix r (F Q N)<|G Q N
@[reducible]def KS(v:V)(Q:V->av->Prop)(N:av):Prop:=v.i λl=>Z l<=bi/\Q (.e N.d) (N.b<|.e l)
@[reducible]def Ri(v:V)(Q:V->av->Prop)(N:av):Prop:=v.i λl=>Z l<=bi/\Q (.g l) N
@[reducible]def v2(Q:V->av->Prop):U V->av->Prop:=λh N=>Q (.e N.d)<|N.b<|.e h
@[reducible]def Kw(l:U V)(P:U V->av->Prop):U V->av->Prop:=λb N=>nf b/\∀T,hc ax b l T->P T N
@[reducible]def BF(c:ba)(l:U V)(P:U V->av->Prop):U V->av->Prop:=λb N=>(∀k∈b,∃i,k=.a i)/\∀T,hc c b l T->P T N
@[reducible]def NV(C:ei)(f:O)(v:V)(Q:V->av->Prop)(N:av):Prop:=bF (N.k v) λl=>dA l/\Z l<=4/\iB C f [] l (Kw l<|v2 Q) N
@[reducible]def NY(C:ei)(f:O)(a:ba)(v A:V)(Q:V->av->Prop)(N:av):Prop:=A=.b 0/\bF (N.k v) λl=>dA l/\Z l<64/\iB C f [A] l (BF a l<|v2 Q) N
@[reducible]def sN(h:U V)(K:U V->av->Prop):V->av->Prop:=λx=>K<|h++[x]
@[reducible]def sr(B:V->U V->(U V->av->Prop)->av->Prop)(G:V)(Q:V->av->Prop)(N:av):Prop:=∃n,iC G B n 0 [] (v2 Q) N
@[reducible]def Hl(i:O)(L:U V)(F:U V->(V->av->Prop)->av->Prop):V->U V->(U V->av->Prop)->av->Prop:=λv h K N=>i<Z L/\v≠.d/\Z h<bi/\F (L.set i v) (sN h K) N
@[reducible]def Hq(F:(V->av->Prop)->av->Prop)(h:U V)(K:U V->av->Prop):V->av->Prop:=λb N=>b.l λr=>ix r (F (sN h K) N)<|K h N
@[reducible]def Hn(i:O)(L:U V)(G F:U V->(V->av->Prop)->av->Prop):V->U V->(U V->av->Prop)->av->Prop:=λv h K N=>i<Z L/\v≠.d/\Z h<bi/\G (L.set i v) (Hq (F<|L.set i v) h K) N
@[reducible]def Hp(i j:O)(L:U V)(F:U V->(V->av->Prop)->av->Prop):V->U V->(U V->av->Prop)->av->Prop:=λv h K N=>v.u λx y=>i<Z L/\j<Z L/\x≠.d/\y≠.d/\Z h<bi/\F ((L.set i x).set j y) (sN h K) N
@[reducible]def Ho(j:O)(L:U V)(F:U V->(V->av->Prop)->av->Prop):V->U V->(U V->av->Prop)->av->Prop:=λw h K N=>w≠.d/\Z h<bi/\F (L.set j w) (sN h K) N
@[reducible]def Hr(B:V->U V->(U V->av->Prop)->av->Prop)(h:U V)(K:U V->av->Prop):V->av->Prop:=λt N=>∃m,iC t B m 0 h K N
@[reducible]def Hm(i j:O)(L:U V)(G F:U V->(V->av->Prop)->av->Prop):V->U V->(U V->av->Prop)->av->Prop:=λv h K N=>i<Z L/\j<Z L/\v≠.d/\G (L.set i v) (Hr (Ho j (L.set i v) F) h K) N
@[reducible]def Hs(C:ei)(f:O)(v:V)(Q:V->av->Prop)(N:av):Prop:=v.i λl=>C f l Q N
@[reducible]def MH(C:ei)(o f:O)(v:V)(Q:V->av->Prop)(N:av):Prop:=v.i λl=>C f (.b o::l) Q N
@[reducible]def MG(C:ei)(F:(V->av->Prop)->av->Prop)(o f:O)(x:V)(Q:V->av->Prop)(N:av):Prop:=x=.b o/\(f=0->N.j o 31=.d)/\F (gf (MH C o f) Q) N
@[reducible]def MY(C:ei)(o c:O)(v:V)(Q:V->av->Prop)(N:av):Prop:=v.i λl=>N.f o=ax/\(∀a,N.c o a=.n)/\C c (.b o::l) (λr A=>r=.z/\Q (.b o) A) {N with f:=aw N.f o an}
@[reducible]def QQ(C:ei)(f:O)(L:U V)(v:V)(Q:V->av->Prop)(N:av):Prop:=v.i λl=>bF (c5 L 0) λs=>C f (s::l) Q N
@[reducible]def GO(l v:V)(Q:V->av->Prop)(N:av):Prop:=bF (N.o l v) λu=>Q .z u
@[reducible]def GN(F:(V->av->Prop)->av->Prop)(l:V)(Q:V->av->Prop)(N:av):Prop:=bF (N.i l) λp=>F (sO GO l Q) N
@[reducible]def Ic(l v:V)(Q:V->av->Prop)(N:av):Prop:=bF (N.i l) λa=>bF (N.i v) λb=>dA a/\dA b/\l≠v/\Z a+Z b<=bi/\bF (N.p l<|a++b) λu=>Q .z u
@[reducible]def Ie(F:(V->av->Prop)->av->Prop)(l:V)(Q:V->av->Prop)(N:av):Prop:=bF (N.i l) λp=>F (sO Ic l Q) N
def bA(p:ei):a5->U V->(V->av->Prop)->av->Prop|.d,_,k,h=>k (.g []) h|.b a A,L,k,h=>bA p a L (on (bA p A L) HR k) h|.c i,L,k,h=>bF (c5 L i) λb'=>k b' h|.s b',_,k,h=>k b' h|.q j',_,k,h=>k (mc j') h|.f E n a,L,k,h=>bA p E L (gf (G4 n a) k) h|.w v E,L,k,h=>bA p E L (gf (tu v) k) h|.G v a A,L,k,h=>bA p a L (on (bA p A L) (sj v) k) h|.Q E k' l',L,k,h=>bA p E L (λb' g'=>bA p k' L (λi h'=>bA p l' L (λX c'=>i.c λi=>X.c λX=>bF (c'.i b') λi'=>0<=i/\i<=X/\X<2^62/\Z i'<=bi/\k (.e c'.d) (c'.b<|.e<|(i'.take (bM X)).drop (bM i))) h') g') h|.m v a A,L,k,h=>bA p a L (on (bA p A L) (ke v) k) h|.l v a A,L,k,h=>bA p a L (on (bA p A L) (iz v) k) h|.R m' n' a A d',L,k,h=>bA p a L (on (bA p A L) (Hk m' n'<|bA p d' L) k) h|.t a A,L,k,h=>bA p a L (gf (GL<|bA p A L) k) h|.B a A,L,k,h=>bA p a L (gf (Ns<|bA p A L) k) h|.D d' a A,L,k,h=>bA p d' L (gf (Ke (bA p a L)<|bA p A L) k) h|.e H,L,k,h=>bA p H L (gf KS k) h|.g H,L,k,h=>bA p H L (gf Ri k) h|.S,_,k,h=>k (.e h.d)<|h.b<|.b []|.x a A e',L,k,h=>bA p a L (λf' g'=>bA p A L (λo' h'=>bA p e' L (λp' c'=>f'.c λa=>o'.c λA=>p'.c λe'=>ao a<2^30/\ao A<2^30/\(e'=1\/e'=-1)/\k (.x a A e') c') h') g') h|.M E K,L,k,h=>bA p E L (gf (NV p K) k) h|.W E n K q',L,k,h=>bA p E L (on (bA p n L) (NY p K q') k) h|.y i z a',L,k,h=>bA p z L (gf (sr<|Hl i L<|bA p a') k) h|.C i z d' a',L,k,h=>bA p z L (gf (sr<|Hn i L (bA p d')<|bA p a') k) h|.T i X z a',L,k,h=>bA p z L (gf (sr<|Hp i X L<|bA p a') k) h|.N i z X r' a',L,k,h=>bA p z L (gf (sr<|Hm i X L (bA p r')<|bA p a') k) h|.r K H,L,k,h=>bA p H L (gf (Hs p K) k) h|.j E n K H,L,k,h=>bA p E L (gf (MG p (bA p H L) n K) k) h|.u n K H,L,k,h=>bA p H L (gf (MY p n K) k) h|.P K H,L,k,h=>bA p H L (gf (QQ p K L) k) h|.o E f',L,k,h=>bA p E L (gf (GN<|bA p f' L) k) h|.F E f',L,k,h=>bA p E L (gf (Ie<|bA p f' L) k) h
def hv:a5->a3 O|.c i=>Y i|_=>au
def jc(a:a3 O)(v h:V)(L:U V):U V:=match a,v with|Y i,.e _=>L.set i h|_,_=>L
@[reducible]def N3(c:a3 O)(o a:O)(v:V)(Q:U V->av->Prop)(L:U V):V->av->Prop:=λx q=>x=.b o/\bF (q.l o a v) λp=>Q (jc c v p.1 L) p.2
@[reducible]def Oy(a:a3 O)(v:V)(Q:U V->av->Prop)(L:U V)(x:V):V->av->Prop:=λj A=>j.c λj=>j<2^62/\bF (A.s x j v) λp=>Q (jc a v p.1 L) p.2
@[reducible]def Ox(F:(V->av->Prop)->av->Prop)(a:a3 O)(v:V)(Q:U V->av->Prop)(L:U V):V->av->Prop:=λx=>F<|Oy a v Q L x
def iw(C:ei):fT->V->a3 O->(U V->av->Prop)->U V->av->Prop|.a c,v,_,Q,L,N=>c<Z L/\v≠.d/\Q (L.set c v) N|.f e o h,v,j,Q,L,N=>bA C e L (N3 j o h v Q L) N|.i e c,v,j,Q,L,N=>bA C e L (Ox (bA C c L) j v Q L) N|.d,v,_,Q,L,N=>v=.g []/\Q L N|.b h k,v,_,Q,L,N=>v.s λx R=>Z R=k.k/\iw C h x au (iw C k (.g R) au Q) L N
@[reducible]def BZ(P:U V->av->Prop)(Q:dk->U V->av->Prop):dk->U V->av->Prop:=λf n A=>f.f (P n A) (Q .b n A) λv=>Q (.c v) n A
def m6(a:V)(body:V->(dk->U V->av->Prop)->U V->av->Prop):O->O->(dk->U V->av->Prop)->U V->av->Prop|0,_,_,_,_=>bW|n+1,i,Q,L,N=>bF (N.q a i) λr=>oB r (Q .b L N) λv=>body v (BZ (m6 a body n (i+1) Q) Q) L N
def oQ(a:(ba->av->Prop)->U V->av->Prop)(body:(dk->U V->av->Prop)->U V->av->Prop):O->(dk->U V->av->Prop)->U V->av->Prop|0,_,_,_=>bW|n+1,Q,L,N=>a (λc q=>ix c (body (BZ (oQ a body n Q) Q) L q)<|Q .b L q) L N
@[reducible]def Qc(P:U V->av->Prop)(Q:dk->U V->av->Prop):dk->U V->av->Prop:=λf n A=>f.g (P n A)<|Q f n A
@[reducible]def GU(P:V->a3 O->(U V->av->Prop)->U V->av->Prop)(a:a3 O)(Q:U V->av->Prop)(L:U V):V->av->Prop:=λv=>P v a Q L
@[reducible]def KA(P:av->Prop):V->av->Prop:=λp=>P
@[reducible]def KE(Q:dk->U V->av->Prop)(L:U V):V->av->Prop:=λv=>Q (.c v) L
@[reducible]def Kf(P R:av->Prop):V->av->Prop:=λv q=>v.l λr=>ix r (P q)<|R q
@[reducible]def DT(F:U V->(V->av->Prop)->av->Prop):(ba->av->Prop)->U V->av->Prop:=λK L N=>F L (λv q=>v.l λb=>K b q) N
@[reducible]def A1(P:V->a3 O->(U V->av->Prop)->U V->av->Prop)(B:(dk->U V->av->Prop)->U V->av->Prop):V->(dk->U V->av->Prop)->U V->av->Prop:=λv K=>P v au<|B K
@[reducible]def Iz(B:V->(dk->U V->av->Prop)->U V->av->Prop)(Q:dk->U V->av->Prop)(L:U V):V->av->Prop:=λG q=>∃n,m6 G B n 0 Q L q
@[reducible]def Po(i:O)(Q:dk->U V->av->Prop)(L:U V):U V->av->Prop:=λT N=>Q .b (L.set i<|.e N.d)<|N.b<|.e T
@[reducible]def Pp(C:ei)(f:O)(c:ba)(v:V)(P:U V->av->Prop):V->av->Prop:=λA q=>A=.b 0/\match v with|.e k=>bF (q.i<|.e k) λl=>dA l/\Z l<64/\iB C f [A] l (BF c l P) {q with a:=aw q.a k au}|_=>bW
def dH(C:ei):bo->(dk->U V->av->Prop)->U V->av->Prop|.e,Q,L,N=>Q .b L N|.d q p,Q,L,N=>dH C q (Qc (dH C p Q) Q) L N|.b t m,Q,L,N=>bA C m L (GU (iw C t) (hv m) (Q .b) L) N|.f m,Q,L,N=>bA C m L (KA<|Q .b L) N|.a m,Q,L,N=>bA C m L (KE Q L) N|.c r q p,Q,L,N=>bA C r L (Kf (dH C q Q L)<|dH C p Q L) N|.h r p,Q,L,N=>∃n,oQ (DT<|bA C r) (dH C p) n Q L N|.g t m p,Q,L,N=>bA C m L (Iz (A1 (iw C t)<|dH C p) Q L) N|.j,Q,L,N=>Q .d L N|.k,Q,L,N=>Q .e L N|.i,_,_,_=>bW|.l s o u w,Q,L,N=>bF (c5 L s) λv=>bF (N.i v) λx=>bA C o L (Pp C u w v<|Po s Q L) N
structure bg where
 d:O
 e:O
 c:U V
 b:bo
def bg.a(f:bg)(Q:U V):U V:=Q++f.c++SH (f.e-Z Q-Z f.c) .d
def aO(R:O->a3 bg):O->ei|0,_,_,_,_=>bW|c+1,f,a,Q,N=>bF (R f) λb=>Z a=b.d/\(∀v∈a,v≠.d)/\dH (aO R c) b.b (λL p A=>L.a (Q .z A) λv=>Q v A) (b.a a) N
instance:d0 V:=⟨.d⟩
instance:d0 cN:=⟨.e 0⟩
instance:d0 cd:=⟨.n⟩
instance:d0 b8:=⟨.e []⟩
instance:d0 av:=⟨⟨λp p=>.n,dt,dt,dt,dt,dt⟩⟩
instance:d0 a5:=⟨.d⟩
instance:d0 bo:=⟨.e⟩
instance:d0 dk:=⟨.b⟩
instance:d0 fT:=⟨.d⟩
instance:d0 bg:=⟨⟨0,0,[],.e⟩⟩
def hR(C:ei):Prop:=∀f a(Q T:V->av->Prop)N,(∀v N,Q v N->T v N)->C f a Q N->C f a T N
end
section
variable{A B a b:Prop}{v:V}
mutual
theorem bw(h:C/\A)(f:A->B):C/\B:=⟨h.1,f h.2⟩
theorem dc(m:∀i,f i->g i)(h:v.c f):v.c g:=by induction v using V.casesOn<;>first|exact m _ h|exact h
theorem jN(m:∀i,f i->g i)(h:v.l f):v.l g:=by induction v using V.casesOn<;>first|exact m _ h|exact h
theorem gg(m:∀i,f i->g i)(h:v.i f):v.i g:=by induction v using V.casesOn<;>first|exact m _ h|exact h
theorem qr(m:∀i,f i->g i)(a:A->B)(h:v.n f A):v.n g B:=by induction v using V.casesOn<;>first|exact m _ h|exact a h
theorem M8(m:∀x y,f x y->c x y)(h:v.u f):v.u c:=by
 induction v using V.casesOn with
 |g l=>induction l using gn with|nil=>exact h|cons x l=>induction l using gn with|nil=>exact h|cons y l=>induction l using gn with|nil=>exact m _ _ h|cons z l=>exact h
 |_=>exact h
theorem Cy(m:∀x y,f x y->c x y)(h:v.s f):v.s c:=by
 induction v using V.casesOn with
 |g l=>induction l using gn with|nil=>exact h|cons x l=>exact m _ _ h
 |_=>exact h
theorem m1(m:A->a)(g:B->b)(h:ix c A B):ix c a b:=by induction c;exact g h;exact m h
theorem CA{r:a3 α}{f g:α->Prop}(m:A->B)(a:∀x,f x->g x)(h:oB r A f):oB r B g:=by induction r;exact m h;exact a _ h
theorem B1{f:dk}(m:A->a)(c:B->b)(l:∀x,g x->u x)(h:f.f A B g):f.f a b u:=by induction f;exact m h;exact c h;exact m h;exact l _ h
theorem DB{f:dk}(m:A->a)(g:B->b)(h:f.g A B):f.g a b:=by induction f;exact m h;all_goals exact g h
theorem NM{f:dk}(m:A->a)(l:∀x,g x->u x)(h:f.a A g):f.a a u:=by induction f;exact m h;exact h;exact h;exact l _ h
end
end
mutual
theorem GE{N:av}(m:∀c N,Q c N->T c N)(h:vj x y Q N):vj x y T N:=by haveI k:bF (N.i x) (λa=>bF (N.i y) λb=>Z a+Z b<=bi/\Q (.e N.d) (N.b<|.e<|a++b))->bF (N.i x) (λa=>bF (N.i y) λb=>Z a+Z b<=bi/\T (.e N.d) (N.b<|.e<|a++b)):=λh=>h.f λp h=>h.f λp h=>bw h<|m _ _;revert h k;induction x using V.casesOn<;>first|exactλh p=>dc (λp=>m _ _) h|exactλh p=>gg (λp h=>bw h<|m _ _) h|exactλh k=>k h
theorem He{N:av}(m:∀c N,Q c N->T c N)(h:ke F x y Q N):ke F x y T N:=by induction F with|integer=>exact GE m h|text=>exact dc (λp h=>dc (λp=>m _ _) h) h|_=>exact dc (λp h=>dc (λp h=>bw h<|m _ _) h) h
theorem vA{N:av}(m:∀c N,Q c N->T c N)(h:iz F x y Q N):iz F x y T N:=by induction F with|up=>exact bw h<|m _ _|down=>exact bw h<|m _ _|halfEven=>exact h.f λp h=>bw h<|m _ _|zeroFiveUp=>exact h.f λp h=>bw h<|m _ _|_=>exact dc (λp h=>dc (λp=>m _ _) h) h
theorem qe(b:∀e d f g N,(∀c N,f c N->g c N)->body e d f N->body e d g N)(m:∀c N,Q c N->T c N):∀n i d N,iC j body n i d Q N->iC j body n i d T N:=by intro n;induction n with|zero=>exactλp p p h=>h|succ n k=>exactλi p p h=>h.f λp h=>CA (m _ _) (λp h=>b _ _ _ _ _ (λc A l=>k (i+1) c A l) h) h
theorem v4{C:ei}(A:hR C){f:O}{n:U V}(l:U V):∀{Q T:U V->av->Prop}{N:av},(∀c N,Q c N->T c N)->iB C f n l Q N->iB C f n l T N:=by induction l with|nil=>exactλm h=>m _ _ h|cons x r d=>exactλm h=>A _ _ _ _ _ (λp p b=>d (λp p u=>m _ _ u) b) h
theorem Ro{N:av}(m:∀d N,Q d N->T d N)(h:tu F d Q N):tu F d T N:=by induction F with|nextStart=>exact dc (λp=>m _ _) h|nextBranch=>exact m _ _ h|giveBack=>exact m _ _ h|takeMore=>exact h.f λp h=>bw h<|m _ _|closeLoop=>exact jN (λp=>m _ _) h|maxBelow=>exact qr (λp h=>bw h<|m _ _) (λh=>h.f λp h=>bw h<|m _ _) h|maxMore=>exact dc (λp=>m _ _) h|maxTail=>exact qr (λp=>m _ _) (λh=>h.f λp h=>bw h λh=>bw h<|m _ _) h|minBelow=>exact gg (λp h=>bw h<|m _ _) h|minTail=>exact h.f λp h=>bw h λh=>bw h<|m _ _|minMore=>exact h.f λp h=>bw h λh=>bw h<|m _ _|possBelow=>exact gg (λp=>m _ _) h|possMore=>exact gg (λp h=>bw h λh=>bw h λh n x=>m _ _<|h n x) h|atomic=>exact h.f λp h=>bw h λh=>bw h λh o a b c=>m _ _<|h o a b c|look=>exact h.f λp h=>bw h λh=>bw h λh o a=>m _ _<|h o a|lookNot=>exact h.f λp h=>bw h λh=>bw h λh=>h.f λp h=>h.f λp=>m _ _
theorem G6{N:av}(m:∀c N,Q c N->T c N)(h:sj F c w Q N):sj F c w T N:=by induction F with|ignore=>exact dc (λp h=>qr (λp h=>bw h λh=>bw h λh=>h.f λp=>m _ _) (λh=>h.f λp h=>bw h λh=>bw h λh=>bw h λh=>h.f λp=>m _ _) h) h|warn=>exact dc (λp h=>h.f λp h=>bw h λh=>bw h λh=>bw h<|m _ _) h|raise=>exact dc (λp h=>h.f λp h=>bw h λh=>bw h λh=>bw h<|m _ _) h|call=>exact dc (λp h=>dc (λp=>m _ _) h) h|print=>exact dc (λp h=>dc (λp=>m _ _) h) h|log=>exact dc (λp h=>bw h<|m _ _) h
theorem gV(h':hR H):∀E L p z k,(∀X k,p X k->z X k)->bA H E L p k->bA H E L z k:=by intro E;induction E with|d|s|q|S=>exactλL p z k K h=>K _ _ h|c i'=>exactλL p z k K h=>h.f λA=>K _ _|b a' e' a i=>exactλL p z k K h=>a _ _ _ _ (λA A h=>i _ _ _ _ (λA A h=>gg (λA=>K _ _) h) h) h|f c' f' a' v=>exactλL p z k K h=>v _ _ _ _ (λA A h=>bw h λh=>h.f λA=>K _ _) h|w l' c' v=>exactλL p z k K h=>v _ _ _ _ (λA A h=>Ro K h) h|G l' a' e' a i=>exactλL p z k K h=>a _ _ _ _ (λA A h=>i _ _ _ _ (λA A h=>G6 K h) h) h|Q c' i' r' n t' u'=>exactλL p z k K h=>n _ _ _ _ (λA A h=>t' _ _ _ _ (λA A h=>u' _ _ _ _ (λA A h=>dc (λA h=>dc (λA h=>h.f λA h=>bw h λh=>bw h λh=>bw h λh=>bw h<|K _ _) h) h) h) h) h|m l' a' e' a i=>exactλL p z k K h=>a _ _ _ _ (λA A h=>i _ _ _ _ (λA A h=>He K h) h) h|l l' a' e' a i=>exactλL p z k K h=>a _ _ _ _ (λA A h=>i _ _ _ _ (λA A h=>vA K h) h) h|R y' z' a' e' s' a i j'=>exactλL p z k K h=>a _ _ _ _ (λA A h=>i _ _ _ _ (λA A h=>vA (λA A h=>jN (λA h=>m1 (λh=>j' _ _ _ _ (λA A h=>vA K h) h) (K _ _) h) h) h) h) h|t a' e' a i=>exactλL p z k K h=>a _ _ _ _ (λA A h=>jN (λA h=>m1 (λh=>i _ _ _ _ K h) (K _ _) h) h) h|B a' e' a i=>exactλL p z k K h=>a _ _ _ _ (λA A h=>jN (λA h=>m1 (K _ _) (λh=>i _ _ _ _ K h) h) h) h|D s' a' e' j' a i=>exactλL p z k K h=>j' _ _ _ _ (λA A h=>jN (λA h=>m1 (λh=>a _ _ _ _ K h) (λh=>i _ _ _ _ K h) h) h) h|e c' v=>exactλL p z k K h=>v _ _ _ _ (λA A h=>gg (λA h=>bw h<|K _ _) h) h|g c' v=>exactλL p z k K h=>v _ _ _ _ (λA A h=>gg (λA h=>bw h<|K _ _) h) h|x a' e' A' a i m'=>exactλL p z k K h=>a _ _ _ _ (λA A h=>i _ _ _ _ (λA A h=>m' _ _ _ _ (λA A h=>dc (λA h=>dc (λA h=>dc (λA h=>bw h λh=>bw h λh=>bw h<|K _ _) h) h) h) h) h) h|M c' k' v=>exactλL p z k K h=>v _ _ _ _ (λA A h=>h.f λA h=>bw h λh=>bw h λh=>v4 h' _ (λA A h=>bw h λh f' a'=>K _ _<|h f' a') h) h|W c' f' k' B' n v'=>exactλL p z k K h=>n _ _ _ _ (λA A h=>v' _ _ _ _ (λA A h=>bw h λh=>h.f λA h=>bw h λh=>bw h λh=>v4 h' _ (λA A h=>bw h λh f' a'=>K _ _<|h f' a') h) h) h|y i' n' o' g' n=>exactλL p z k K h=>g' _ _ _ _ (λA A h=>bD h λd' h=>⟨d',qe (by exactλA A A A A b' h=>bw h λh=>bw h λh=>bw h λh=>n _ _ _ _ (λA A h=>b' _ _ h) h) (λA A=>K _ _) _ _ _ _ h⟩) h|C i' n' s' o' g' j' n=>exactλL p z k K h=>g' _ _ _ _ (λA A h=>bD h λd' h=>⟨d',qe (by exactλA A A A A b' h=>bw h λh=>bw h λh=>bw h λh=>j' _ _ _ _ (λA A h=>jN (λA h=>m1 (λh=>n _ _ _ _ (λA A h=>b' _ _ h) h) (b' _ _) h) h) h) (λA A=>K _ _) _ _ _ _ h⟩) h|T i' r' n' o' g' n=>exactλL p z k K h=>g' _ _ _ _ (λA A h=>bD h λd' h=>⟨d',qe (by exactλA A A A A b' h=>M8 (λA A h=>bw h λh=>bw h λh=>bw h λh=>bw h λh=>bw h λh=>n _ _ _ _ (λA A h=>b' _ _ h) h) h) (λA A=>K _ _) _ _ _ _ h⟩) h|N i' n' r' C' o' g' w' n=>exactλL p z k K h=>g' _ _ _ _ (λA A h=>bD h λd' h=>⟨d',qe (by exactλA A A A A b' h=>bw h λh=>bw h λh=>bw h λh=>w' _ _ _ _ (λA A h=>bD h λd' h=>⟨d',qe (by exactλA A A A A b' h=>bw h λh=>bw h λh=>n _ _ _ _ (λA A h=>b' _ _ h) h) b' _ _ _ _ h⟩) h) (λA A=>K _ _) _ _ _ _ h⟩) h|r k' p' v=>exactλL p z k K h=>v _ _ _ _ (λA A h=>gg (λA h=>h' _ _ _ _ _ K h) h) h|j c' f' k' p' n m'=>exactλL p z k K h=>n _ _ _ _ (λA A h=>bw h λh=>bw h λh=>m' _ _ _ _ (λA A h=>gg (λA h=>h' _ _ _ _ _ K h) h) h) h|u f' k' p' v=>exactλL p z k K h=>v _ _ _ _ (λA A h=>gg (λA h=>bw h λh=>bw h λh=>h' _ _ _ _ _ (λA A h=>bw h<|K _ _) h) h) h|P k' p' v=>exactλL p z k K h=>v _ _ _ _ (λA A h=>gg (λA h=>h.f λA h=>h' _ _ _ _ _ K h) h) h|o c' x' n q'=>exactλL p z k K h=>n _ _ _ _ (λA A h=>h.f λA h=>q' _ _ _ _ (λA A h=>h.f λA=>K _ _) h) h|F c' x' n q'=>exactλL p z k K h=>n _ _ _ _ (λA A h=>h.f λA h=>q' _ _ _ _ (λA A h=>h.f λA h=>h.f λA h=>bw h λh=>bw h λh=>bw h λh=>bw h λh=>h.f λA=>K _ _) h) h
theorem Ap(A:hR C):∀t c g Q T L N,(∀L N,Q L N->T L N)->iw C t c g Q L N->iw C t c g T L N:=by intro t;induction t with|d=>exactλc g Q T L N m h=>bw h<|m _ _|b j n y k=>exactλc g Q T L N m h=>Cy (λp p h=>bw h λh=>y _ _ _ _ _ _ (λp p h=>k _ _ _ _ _ _ m h) h) h|a l=>exactλc g Q T L N m h=>bw h λh=>bw h<|m _ _|f e o j=>exactλc g Q T L N m h=>gV A _ _ _ _ _ (λp p h=>bw h λh=>h.f λp=>m _ _) h|i e l=>exactλc g Q T L N m h=>gV A _ _ _ _ _ (λp p h=>gV A _ _ _ _ _ (λp p h=>dc (λp h=>bw h λh=>h.f λp=>m _ _) h) h) h
theorem IA(a:∀c d e L N,(∀f L N,d f L N->e f L N)->body c d L N->body c e L N)(m:∀f L N,Q f L N->T f L N):∀n i L N,m6 g body n i Q L N->m6 g body n i T L N:=by intro n;induction n with|zero=>exactλp p p h=>h|succ n b=>exactλi p p h=>h.f λp h=>CA (m _ _ _) (λp h=>a _ _ _ _ _ (λp j A k=>B1 (b (i+1) j A) (m _ _ _) (λp=>m _ _ _) k) h) h
theorem Rw(D:∀c d L N,(∀g N,c g N->d g N)->e c L N->e d L N)(a:∀c d L N,(∀f L N,c f L N->d f L N)->body c L N->body d L N)(m:∀f L N,Q f L N->T f L N):∀n L N,oQ e body n Q L N->oQ e body n T L N:=by intro n;induction n with|zero=>exactλp p h=>h|succ n i=>exactλp p h=>D _ _ _ _ (λp p h=>m1 (λh=>a _ _ _ _ (λp j A k=>B1 (i j A) (m _ _ _) (λp=>m _ _ _) k) h) (m _ _ _) h) h
theorem Rx(A:hR C):∀p Q T L N,(∀q L N,Q q L N->T q L N)->dH C p Q L N->dH C p T L N:=by intro p;induction p with|e|j|k=>exactλQ T L N m r=>m _ _ _ r|i=>exactλQ T L N m r=>r|d u w y x=>exactλQ T L N m r=>y _ _ _ _ (λs s s r=>DB (x _ _ _ _ m) (m _ _ _) r) r|b t z=>exactλQ T L N m r=>gV A _ _ _ _ _ (λs s r=>Ap A _ _ _ _ _ _ _ (λs s=>m _ _ _) r) r|f z=>exactλQ T L N m r=>gV A _ _ _ _ _ (λs s=>m _ _ _) r|a z=>exactλQ T L N m r=>gV A _ _ _ _ _ (λs s=>m _ _ _) r|c D u w y x=>exactλQ T L N m r=>gV A _ _ _ _ _ (λs s r=>jN (λs r=>m1 (y _ _ _ _ m) (x _ _ _ _ m) r) r) r|h D w B=>exactλQ T L N m r=>bD r λn r=>⟨n,Rw (by exactλs s s s m r=>gV A _ _ _ _ _ (λs s r=>jN (λs=>m _ _) r) r) (by exactλs s s s m r=>B _ _ _ _ m r) m _ _ _ r⟩|g t z w B=>exactλQ T L N m r=>gV A _ _ _ _ _ (λs s r=>bD r λn r=>⟨n,IA (by exactλs s s s s m r=>Ap A _ _ _ _ _ _ _ (λs s r=>B _ _ _ _ m r) r) m _ _ _ _ r⟩) r|l E o q F=>refineλQ T L N m r=>r.f λv r=>r.f λs r=>gV A _ _ _ _ _ (λs s r=>bw r λr=>?_) r;induction v using V.casesOn<;>first|exact r|exact r.f λG r=>bw r λr=>bw r λr=>v4 A _ (λs s r=>bw r λr o u=>m _ _ _<|r o u) r
theorem jz(R:O->a3 bg)(d:O):hR<|aO R d:=by induction d with|zero=>exactλp p p p p p h=>h|succ d a=>exactλf b Q T N m h=>h.f λc h=>bw h λh=>bw h λh=>Rx a _ _ _ _ _ (λp p p h=>NM (m _ _) (λp=>m _ _) h) h
def Ln:bo:=.d (.c (.l g0 (.k<|.i (.f (.c 0) 0 12)<|.c 1)<|.a 2) (.f<|.j (.c 0) 0 34<|.b (.a 0) .d) .e)<|.d (.b (.a 2)<|.j (.c 0) 0 30<|.b (.i (.f (.c 0) 0 12)<|.c 1) .d)<|.d (.b (.i (.f (.c 0) 0 12)<|.c 1)<|.c 2)<|.d (.c (.l d1 (.k<|.c 2)<|.a 1) (.f<|.j (.c 0) 0 28<|.b (.c 1) .d) .e)<|.d (.c (.B (.l cB (.k<|.c 2)<|.a 0)<|.l cB (.j (.c 0) 0 23<|.b (.i (.c 2)<|.a 0) .d)<|.q 2) (.a<|.c 1) .e)<|.d (.c (.l cB (.j (.c 0) 0 23<|.b (.i (.c 2)<|.a 0) .d)<|.q 0) (.c (.l cB (.k<|.c 2)<|.a 1) (.f<|.j (.c 0) 0 32<|.b (.i (.c 2)<|.a 0)<|.b (.c 1) .d)<|.c (.l cB (.j (.c 0) 0 23<|.b (.i (.c 2)<|.a 1) .d)<|.q 2) (.d (.f<|.j (.c 0) 0 34<|.b (.i (.f (.c 0) 0 2)<|.n<|.i (.c 2)<|.a 1) .d)<|.f<|.j (.c 0) 0 32<|.b (.i (.c 2)<|.a 0)<|.b (.c 1) .d) .e) .e)<|.a<|.q 3
def Lo:bo:=.d (.b (.f (.c 0) 1 28)<|.c 1)<|.d (.b (.f (.c 0) 1 29)<|.q 4)<|.d (.b (.f (.c 0) 1 30)<|.e<|.b (.a 0) .d)<|.d (.b (.f (.c 0) 1 7)<|.e .d)<|.b (.f (.c 0) 1 31)<|.e<|.b (.v<|.a 1) .d
def Ly:bo:=.a<|.m dK (.k<|.f (.c 0) 1 30)<|.a 1
def LK:bo:=.a<|.l ij (.i (.f (.c 0) 1 31)<|.c 1)<|.a 0
def LV:bo:=.d (.c (.l dj (.i (.f (.c 0) 1 30)<|.c 1)<|.i (.f (.c 0) 1 30)<|.c 2) (.a<|.l d1 (.i (.f (.c 0) 1 30)<|.c 1)<|.i (.f (.c 0) 1 30)<|.c 2) .e)<|.a<|.l g0 (.c 1)<|.c 2
def L6:bo:=.h (.l g0 (.j (.c 0) 1 2 .d)<|.c 1)<|.d (.f<|.o (.f (.c 0) 1 30)<|.a 0)<|.d (.f<|.o (.f (.c 0) 1 31)<|.v<|.a 1)<|.f<|.j (.c 0) 1 10<|.b (.j (.c 0) 1 2 .d) .d
def Mh:bo:=.d (.b (.i (.f (.c 0) 1 7)<|.c 1)<|.c 2)<|.b (.i (.f (.c 0) 1 31)<|.c 2)<|.c 1
def Ms:bo:=.d (.b (.a 2)<|.i (.f (.c 0) 1 7)<|.c 1)<|.d (.h (.l d1 (.c 1)<|.a 0)<|.d (.b (.a 3)<|.m g4 (.m dK (.c 1)<|.a 1)<|.a 2)<|.d (.c (.A<|.j (.c 0) 1 4<|.b (.c 2)<|.b (.i (.f (.c 0) 1 7)<|.c 3) .d) .j .e)<|.d (.f<|.j (.c 0) 1 6<|.b (.c 1)<|.b (.i (.f (.c 0) 1 7)<|.c 3) .d)<|.b (.a 1)<|.c 3)<|.f<|.j (.c 0) 1 6<|.b (.c 1)<|.b (.c 2) .d
def MD:bo:=.d (.b (.a 2)<|.m cY (.m lN (.a 2)<|.c 1)<|.a 1)<|.d (.c (.l ij (.c 2)<|.k<|.f (.c 0) 1 7) (.a<|.v<|.a 1) .e)<|.d (.b (.a 3)<|.m cY (.c 2)<|.a 1)<|.d (.c (.t (.l g0 (.c 3)<|.k<|.f (.c 0) 1 7)<|.j (.c 0) 1 4<|.b (.i (.f (.c 0) 1 7)<|.c 3)<|.b (.i (.f (.c 0) 1 7)<|.c 2) .d) (.a<|.c 3) .e)<|.a<|.c 2
def ME:bo:=.d (.b (.a 2)<|.i (.f (.c 0) 1 7)<|.c 1)<|.d (.b (.a 3)<|.j (.c 0) 1 8<|.b (.c 1) .d)<|.d (.h (.t (.l ij (.c 3)<|.a 0)<|.j (.c 0) 1 4<|.b (.i (.f (.c 0) 1 7)<|.c 3)<|.b (.c 2) .d)<|.d (.f<|.j (.c 0) 1 6<|.b (.c 1)<|.b (.i (.f (.c 0) 1 7)<|.c 3) .d)<|.d (.b (.a 1)<|.c 3)<|.b (.a 3)<|.j (.c 0) 1 8<|.b (.c 1) .d)<|.f<|.j (.c 0) 1 6<|.b (.c 1)<|.b (.c 2) .d
def Lp:bo:=.d (.c (.j (.c 0) 1 3<|.b (.c 1) .d) (.a .z) .e)<|.d (.f<|.o (.f (.c 0) 1 7)<|.c 1)<|.d (.b (.i (.f (.c 0) 1 31)<|.c 1)<|.m dK (.k<|.f (.c 0) 1 7)<|.a 1)<|.f<|.j (.c 0) 1 7<|.b (.m dK (.k<|.f (.c 0) 1 7)<|.a 1) .d
def Lq:bo:=.d (.c (.l cB (.k<|.f (.c 0) 1 7)<|.a 0) (.a<|.a 0) .e)<|.d (.b (.a 1)<|.i (.f (.c 0) 1 7)<|.a 0)<|.d (.b (.a 2)<|.aj<|.f (.c 0) 1 7)<|.d (.b (.i (.f (.c 0) 1 31)<|.c 1)<|.v<|.a 1)<|.d (.c (.l d1 (.k<|.f (.c 0) 1 7)<|.a 0) (.d (.f<|.j (.c 0) 1 6<|.b (.a 0)<|.b (.c 2) .d)<|.f<|.j (.c 0) 1 9<|.b (.a 0) .d) .e)<|.a<|.c 1
def Lr:bo:=.d (.b (.a 2)<|.j (.c 0) 1 11 .d)<|.d (.h (.t (.l d1 (.c 2)<|.a 0)<|.l dj (.i (.c 1)<|.c 2)<|.a 0)<|.b (.a 2)<|.j (.c 0) 1 11 .d)<|.a<|.c 2
def Ls:bo:=.d (.b (.i (.f (.c 0) 1 30)<|.c 1)<|.m cY (.i (.f (.c 0) 1 30)<|.c 1)<|.f (.c 0) 1 29)<|.c (.l d1 (.i (.f (.c 0) 1 30)<|.c 1)<|.f (.c 0) 1 28) (.f<|.j (.c 0) 1 15 .d)<|.c (.j (.c 0) 1 3<|.b (.c 1) .d) (.f<|.j (.c 0) 1 7<|.b (.i (.f (.c 0) 1 31)<|.c 1) .d) .e
def Lt:bo:=.d (.b (.f (.c 0) 1 29)<|.m cY (.m cY (.f (.c 0) 1 29)<|.m g4 (.f (.c 0) 1 29)<|.m dK (.q 5)<|.a 1)<|.a 1)<|.c (.l d1 (.f (.c 0) 1 29)<|.f (.c 0) 1 28) (.f<|.j (.c 0) 1 15 .d) .e
def Lu:bo:=.d (.b (.a 1)<|.f (.c 0) 1 29)<|.d (.g (.a 2) (.f (.c 0) 1 30)<|.c (.l d1 (.c 2)<|.c 1) (.b (.a 1)<|.c 2) .e)<|.d (.b (.a 3)<|.m cY (.m g4 (.c 1)<|.q 4)<|.a 1)<|.d (.b (.f (.c 0) 1 30)<|.y 4 (.f (.c 0) 1 30)<|.m g4 (.c 4)<|.c 3)<|.d (.b (.f (.c 0) 1 29)<|.m g4 (.f (.c 0) 1 29)<|.c 3)<|.d (.c (.l cB (.f (.c 0) 1 29)<|.a 0) (.b (.f (.c 0) 1 29)<|.a 1) .e)<|.f<|.j (.c 0) 1 16 .d
def Lv:bo:=.d (.b (.a 1)<|.m dK (.m g4 (.k<|.f (.c 0) 1 7)<|.a 2)<|.a 1)<|.h (.l ij (.c 1)<|.a 0)<|.d (.f<|.j (.c 0) 1 9<|.b (.c 1) .d)<|.b (.a 1)<|.m dK (.c 1)<|.a 1
def Lw:bo:=.a<|.D (.l d1 (.c 0)<|.a 0) (.m lN (.a 2)<|.c 0)<|.m dK (.a 1)<|.m lN (.a 2)<|.c 0
def Lx:bo:=.a<|.g<|.b (.n<|.c 0)<|.b (.c 0) .d
def B7:bo:=.d (.b (.a 1)<|.e .d)<|.d (.g (.a 2) (.M (.c 0) 18)<|.c (.B (.aa<|.c 1)<|.l dj (.i (.c 1)<|.v<|.a 1)<|.c 2) (.f<|.o (.c 1)<|.c 2) .e)<|.a<|.E<|.c 1
def Lz:bo:=.d (.g (.a 1) (.x (.a 1) (.k<|.c 0)<|.a 1)<|.c (.l cB (.i (.c 0)<|.c 1)<|.v<|.i (.c 0)<|.m dK (.c 1)<|.a 1) (.a<|.h an) .e)<|.a<|.h ax
def LA:bo:=.d (.b (.f (.c 0) 0 0)<|.c 1)<|.d (.b (.f (.c 0) 0 1)<|.e<|.b (.q 0) .d)<|.d (.b (.f (.c 0) 0 2)<|.e<|.b (.a 0) .d)<|.d (.b (.f (.c 0) 0 3)<|.e<|.b (.q 3) .d)<|.d (.b (.f (.c 0) 0 4)<|.e<|.b (.a 0) .d)<|.d (.b (.f (.c 0) 0 5)<|.e<|.b (.q 2) .d)<|.d (.b (.f (.c 0) 0 6)<|.e<|.b (.e .d)<|.b (.e .d) .d)<|.d (.b (.f (.c 0) 0 7)<|.u 1 1 .d)<|.d (.b (.f (.c 0) 0 8)<|.e .d)<|.d (.b (.f (.c 0) 0 9)<|.e .d)<|.d (.b (.f (.c 0) 0 10)<|.a 0)<|.d (.b (.f (.c 0) 0 11)<|.a 0)<|.d (.b (.f (.c 0) 0 12)<|.e .d)<|.d (.b (.f (.c 0) 0 13)<|.e .d)<|.d (.b (.f (.c 0) 0 14)<|.e .d)<|.d (.b (.f (.c 0) 0 15)<|.e .d)<|.b (.f (.c 0) 0 16)<|.a 0
def LB:bo:=.d (.b (.a 1)<|.k<|.f (.c 0) 0 1)<|.d (.f<|.o (.f (.c 0) 0 1)<|.q 0)<|.d (.f<|.o (.f (.c 0) 0 2)<|.a 0)<|.d (.f<|.o (.f (.c 0) 0 3)<|.q 3)<|.d (.f<|.o (.f (.c 0) 0 4)<|.a 0)<|.d (.f<|.o (.f (.c 0) 0 5)<|.q 2)<|.d (.f<|.o (.f (.c 0) 0 6)<|.e .d)<|.d (.f<|.o (.f (.c 0) 0 6)<|.e .d)<|.d (.f<|.j (.f (.c 0) 0 7) 1 5<|.b (.c 1) .d)<|.a<|.c 1
def LC:bo:=.a<|.D (.l d1 (.c 1)<|.a 0) (.i (.f (.c 0) 0 1)<|.c 1)<|.v<|.i (.f (.c 0) 0 1)<|.v<|.c 1
def LD:bo:=.a<|.k<|.f (.c 0) 0 9
def LF:bo:=.a<|.i (.f (.c 0) 0 4)<|.c 1
def LG:bo:=.a<|.W (.c 1) (.c 0) 25 an
def LH:bo:=.d (.b (.a 4)<|.k<|.f (.c 0) 0 12)<|.d (.f<|.o (.f (.c 0) 0 12)<|.ac<|.c 1)<|.d (.f<|.o (.f (.c 0) 0 13)<|.c 2)<|.d (.f<|.o (.f (.c 0) 0 14)<|.c 3)<|.d (.f<|.o (.f (.c 0) 0 15)<|.a 0)<|.d (.c (.c 3) (.b (.f (.c 0) 0 16)<|.m cY (.f (.c 0) 0 16)<|.a 1) .e)<|.a<|.c 4
def LI:bo:=.d (.b (.a 2)<|.i (.f (.c 0) 0 12)<|.c 1)<|.d (.f<|.o (.i (.f (.c 0) 0 6)<|.r 17<|.b (.i (.c 2)<|.a 0) .d)<|.c 1)<|.f<|.o (.i (.f (.c 0) 0 6)<|.r 17<|.b (.i (.c 2)<|.a 1) .d)<|.c 1
def LJ:bo:=.d (.c (.l dj (.j (.c 0) 0 23<|.b (.c 1) .d)<|.q 2) (.a<|.m cY (.j (.c 0) 0 24 .d)<|.a 1) .e)<|.a<|.i (.f (.c 0) 0 2)<|.n<|.c 1
def LL:bo:=.d (.b (.a 2)<|.M (.c 1) 18)<|.d (.l 2 (.c 0) 29 an)<|.a<|.c 2
def LM:bo:=.d (.b (.a 2)<|.a 0)<|.d (.g (.a 3) (.i (.f (.c 0) 0 12)<|.c 1)<|.b (.a 2)<|.ak (.c 2)<|.i (.f (.c 0) 0 2)<|.n<|.c 3)<|.a<|.c 2
def LN:bo:=.d (.b (.a 3)<|.n<|.c 1)<|.d (.b (.i (.f (.c 0) 0 1)<|.c 3)<|.D (.l d1 (.c 1)<|.a 0) (.q 1)<|.q 2)<|.d (.b (.i (.f (.c 0) 0 2)<|.c 3)<|.j (.c 0) 0 24 .d)<|.d (.b (.i (.f (.c 0) 0 3)<|.c 3)<|.c 2)<|.d (.b (.i (.f (.c 0) 0 4)<|.c 3)<|.k<|.f (.c 0) 0 8)<|.f<|.o (.f (.c 0) 0 8)<|.c 1
def LO:bo:=.d (.f<|.o (.f (.c 0) 0 9)<|.k<|.f (.c 0) 0 8)<|.c (.X<|.f (.c 0) 0 0) .i .e
def LP:bo:=.d (.b (.a 2)<|.m dK (.j (.c 0) 0 24 .d)<|.c 1)<|.d (.c (.l pa (.c 2)<|.a 0) (.a .z) .e)<|.d (.b (.a 3)<|.i (.f (.c 0) 0 9)<|.c 1)<|.d (.g (.a 4) (.x (.m dK (.k<|.f (.c 0) 0 8)<|.a 1) (.m dK (.c 3)<|.a 1)<|.v<|.a 1)<|.d (.b (.a 5)<|.n<|.i (.f (.c 0) 0 8)<|.c 4)<|.d (.b (.i (.f (.c 0) 0 5)<|.c 5)<|.i (.f (.c 0) 0 1)<|.c 5)<|.d (.b (.i (.f (.c 0) 0 1)<|.c 5)<|.q 0)<|.d (.b (.i (.f (.c 0) 0 3)<|.c 5)<|.q 3)<|.f<|.j (.f (.c 0) 0 7) 1 10<|.b (.c 5) .d)<|.d (.b (.f (.c 0) 0 8)<|.af (.f (.c 0) 0 8)<|.c 3)<|.d (.b (.f (.c 0) 0 9)<|.af (.f (.c 0) 0 9)<|.c 1)<|.d (.b (.f (.c 0) 0 10)<|.ai (.f (.c 0) 0 10)<|.c 3)<|.d (.b (.f (.c 0) 0 11)<|.ai (.f (.c 0) 0 11)<|.c 3)<|.c (.X<|.f (.c 0) 0 0) .i .e
def LQ:bo:=.d (.h (.l g0 (.f (.c 0) 0 10)<|.k<|.f (.c 0) 0 8)<|.d (.b (.a 1)<|.v<|.i (.f (.c 0) 0 8)<|.f (.c 0) 0 10)<|.d (.b (.f (.c 0) 0 10)<|.m cY (.f (.c 0) 0 10)<|.a 1)<|.d (.b (.a 2)<|.j (.c 0) 0 36<|.b (.c 1) .d)<|.c (.l dj (.c 2)<|.q 3) (.d (.b (.f (.c 0) 0 10)<|.k<|.f (.c 0) 0 8)<|.a<|.c 2) .e)<|.a<|.q 3
def LR:bo:=.d (.b (.b (.a 2)<|.b (.a 3)<|.b (.a 4) .d)<|.g<|.b (.i (.f (.c 0) 0 6)<|.r 17<|.b (.c 1) .d)<|.b (.e .d)<|.b (.q 3) .d)<|.d (.g (.a 5) (.x (.a 0) (.k<|.c 2)<|.a 1)<|.d (.b (.a 6)<|.i (.c 2)<|.c 5)<|.d (.b (.a 7)<|.i (.f (.c 0) 0 12)<|.c 6)<|.d (.c (.K<|.c 7) .k .e)<|.d (.c (.l cB (.i (.c 7)<|.a 0)<|.c 1) (.b (.b (.i (.c 7)<|.a 0)<|.b (.i (.c 7)<|.a 1) .d)<|.g<|.b (.i (.c 7)<|.a 1)<|.b (.c 1) .d) .e)<|.d (.c (.t (.l dj (.j (.c 0) 0 23<|.b (.i (.c 7)<|.a 0) .d)<|.q 1)<|.j (.c 0) 0 37<|.b (.c 6)<|.b (.c 7) .d) .k .e)<|.d (.f<|.o (.c 3)<|.c 6)<|.d (.c (.l cB (.j (.c 0) 0 23<|.b (.i (.c 7)<|.a 0) .d)<|.q 2) (.d (.b (.a 4)<|.c 6)<|.d (.f<|.F (.c 3)<|.ab (.c 2)<|.m cY (.c 5)<|.a 1) .j) .e)<|.c (.l cB (.j (.c 0) 0 23<|.b (.i (.c 7)<|.a 0) .d)<|.q 0) (.f<|.j (.c 0) 0 32<|.b (.i (.c 7)<|.a 0)<|.b (.c 6) .d) .e)<|.d (.b (.i (.f (.c 0) 0 6)<|.r 17<|.b (.c 1) .d)<|.c 3)<|.a<|.c 4
def LS:bo:=.d (.g (.a 3) (.x (.a 2) (.k<|.c 2)<|.a 1)<|.c (.l dj (.j (.c 0) 0 23<|.b (.i (.c 2)<|.c 3) .d)<|.q 2) (.d (.b (.b (.i (.c 2)<|.a 1)<|.b (.i (.c 2)<|.c 3) .d)<|.g<|.b (.i (.c 2)<|.c 3)<|.b (.i (.c 2)<|.a 1) .d)<|.d (.f<|.o (.i (.f (.c 0) 0 6)<|.r 17<|.b (.i (.c 2)<|.a 1) .d)<|.c 1)<|.a<|.h an) .e)<|.a<|.h ax
def B8:bo:=.d (.f<|.P 21<|.b (.c 2) .d)<|.d (.b (.f (.c 0) 0 17)<|.c 1)<|.d (.b (.f (.c 0) 0 18)<|.e<|.b (.h ax) .d)<|.d (.b (.f (.c 0) 0 19)<|.e<|.b .z .d)<|.d (.b (.f (.c 0) 0 20)<|.a 0)<|.d (.b (.f (.c 0) 0 21)<|.h an)<|.d (.b (.f (.c 0) 0 22) .z)<|.d (.b (.f (.c 0) 0 23)<|.g .d)<|.d (.b (.f (.c 0) 0 24) .z)<|.d (.b (.f (.c 0) 0 25)<|.a 0)<|.d (.b (.f (.c 0) 0 26)<|.a 0)<|.b (.f (.c 0) 0 27)<|.a 0
def LU:bo:=.d (.f<|.o (.f (.c 0) 0 18)<|.h ax)<|.d (.f<|.o (.f (.c 0) 0 19) .z)<|.a<|.j (.c 0) 0 22 .d
def LW:bo:=.d (.b (.a 3)<|.r 19<|.b (.c 1) .d)<|.d (.f<|.j (.c 0) 0 34<|.b (.a 0) .d)<|.d (.c (.t (.f (.c 0) 0 21)<|.A<|.r 20<|.b (.c 3) .d) (.d (.b (.a 4)<|.j (.c 0) 0 0<|.b (.j (.c 0) 0 27<|.b (.c 3)<|.b (.c 2)<|.b (.h ax) .d) .d)<|.c (.l dj (.c 4)<|.q 3) (.f<|.j (.c 0) 0 46<|.b (.c 4) .d) .e) .e)<|.a<|.f (.c 0) 0 21
def LX:bo:=.a<|.f (.c 0) 0 23
def LY:bo:=.a<|.f (.c 0) 0 24
def LZ:bo:=.d (.c (.B (.K<|.f (.c 0) 0 17)<|.aa<|.c 3) (.a<|.c 2) .e)<|.d (.b (.a 4)<|.j (.f (.c 0) 0 17) 2 67<|.b (.c 2)<|.b (.c 3) .d)<|.d (.c (.l dj (.j (.f (.c 0) 0 17) 2 65<|.b (.c 4) .d)<|.c 1) .i .e)<|.a<|.c 4
def L0:bo:=.d (.c (.K<|.f (.c 0) 0 17) (.a<|.e .d) .e)<|.a<|.y 2 (.j (.c 0) 0 26<|.b (.c 1) .d)<|.g<|.b (.c 2)<|.b (.j (.c 0) 0 45<|.b (.c 2) .d) .d
def L1:bo:=.d (.h (.K<|.i (.f (.c 0) 0 19)<|.c 1)<|.d (.b (.a 2)<|.i (.f (.c 0) 0 8)<|.f (.c 0) 0 20)<|.d (.b (.a 3)<|.i (.f (.c 0) 0 3)<|.n<|.c 2)<|.d (.b (.a 4)<|.e .d)<|.d (.g (.a 5) (.r 19<|.b (.i (.f (.c 0) 0 12)<|.c 3) .d)<|.c (.l dj (.c 5)<|.c 2) (.f<|.o (.c 4)<|.g<|.b (.n<|.c 5)<|.b (.i (.f (.c 0) 0 19)<|.n<|.c 5) .d) .e)<|.d (.b (.i (.f (.c 0) 0 19)<|.n<|.c 2)<|.j (.c 0) 0 43<|.b (.g<|.b (.c 2) .d)<|.b (.i (.f (.c 0) 0 13)<|.c 3)<|.b (.c 4) .d)<|.b (.f (.c 0) 0 20)<|.m cY (.f (.c 0) 0 20)<|.a 1)<|.a<|.i (.f (.c 0) 0 19)<|.c 1
def L2:bo:=.d (.b (.a 2)<|.j (.c 0) 0 44<|.b (.y 3 (.i (.f (.c 0) 0 12)<|.c 1)<|.n<|.c 3) .d)<|.d (.b (.f (.c 0) 0 22)<|.j (.c 0) 0 43<|.b (.g .d)<|.b (.i (.f (.c 0) 0 13)<|.c 1)<|.b (.c 2) .d)<|.b (.f (.c 0) 0 21)<|.h ax
def L3:bo:=.a<|.j (.c 0) 0 35 .d
def L4:bo:=.d (.b (.a 5)<|.a 0)<|.d (.g (.a 6) (.i (.f (.c 0) 0 12)<|.c 1)<|.d (.b (.a 7)<|.n<|.c 6)<|.d (.c (.B (.l cB (.c 7)<|.c 2)<|.i (.f (.c 0) 0 18)<|.c 7) .k .e)<|.d (.b (.i (.f (.c 0) 0 18)<|.c 7)<|.h an)<|.d (.c (.l cB (.i (.f (.c 0) 0 2)<|.c 7)<|.a 0) (.d (.f<|.o (.c 4)<|.c 7) .k) .e)<|.d (.f<|.j (.f (.c 0) 0 7) 1 13<|.b (.c 7) .d)<|.c (.l cB (.i (.f (.c 0) 0 2)<|.c 7)<|.j (.c 0) 0 24 .d) (.b (.a 5)<|.m cY (.c 5)<|.a 1)<|.f<|.o (.c 3)<|.c 6)<|.a<|.c 5
def L5:bo:=.d (.b (.b (.a 2)<|.b (.a 3)<|.b (.a 4)<|.b (.a 5) .d)<|.g<|.b (.e .d)<|.b (.e .d)<|.b (.e .d)<|.b (.e .d) .d)<|.d (.f<|.j (.c 0) 0 53<|.b (.c 1) .d)<|.d (.b (.b (.a 6)<|.b (.a 7) .d)<|.g<|.b (.j (.c 0) 0 48<|.b (.c 1)<|.b (.a 0)<|.b (.c 2)<|.b (.c 3) .d)<|.b (.m dK (.k<|.f (.c 0) 0 8)<|.a 1) .d)<|.d (.h (.h an)<|.d (.h (.A<|.i (.f (.c 0) 0 18)<|.n<|.i (.f (.c 0) 0 8)<|.c 7)<|.b (.a 7)<|.m dK (.c 7)<|.a 1)<|.d (.b (.a 8)<|.i (.f (.c 0) 0 8)<|.c 7)<|.d (.c (.l cB (.c 6)<|.a 1) .j .e)<|.d (.b (.a 9)<|.i (.f (.c 0) 0 3)<|.n<|.c 8)<|.d (.f<|.o (.c 4)<|.g<|.b (.n<|.c 8)<|.b (.i (.f (.c 0) 0 13)<|.c 9) .d)<|.d (.f<|.o (.c 5)<|.n<|.c 8)<|.d (.f<|.j (.c 0) 0 53<|.b (.c 9) .d)<|.d (.b (.a 6)<|.m cY (.m dK (.c 6)<|.a 1)<|.j (.c 0) 0 48<|.b (.c 9)<|.b (.n<|.c 8)<|.b (.c 2)<|.b (.c 3) .d)<|.b (.a 7)<|.m dK (.c 7)<|.a 1)<|.d (.g (.a 10) (.c 5)<|.b (.i (.f (.c 0) 0 18)<|.c 10)<|.h ax)<|.d (.b (.a 11)<|.j (.c 0) 0 51<|.b (.c 2)<|.b (.c 3)<|.b (.c 4) .d)<|.d (.f<|.F (.c 4)<|.j (.c 0) 0 44<|.b (.c 3) .d)<|.d (.g (.a 10) (.m cY (.m cY (.e<|.b (.n<|.c 8) .d)<|.y 12 (.c 2)<|.n<|.c 12)<|.c 3)<|.b (.i (.f (.c 0) 0 18)<|.c 10)<|.h ax)<|.a<|.g<|.b (.m cY (.e<|.b (.v<|.c 8) .d)<|.c 11)<|.b (.c 4) .d
def L7:bo:=.d (.b (.a 2)<|.i (.f (.c 0) 0 3)<|.n<|.c 1)<|.d (.c (.l cB (.c 2)<|.q 3) (.a<|.h ax) .e)<|.d (.g (.a 3) (.i (.f (.c 0) 0 12)<|.c 2)<|.d (.b (.a 4)<|.n<|.c 3)<|.c (.t (.l dj (.c 4)<|.n<|.c 1)<|.t (.l d1 (.i (.f (.c 0) 0 2)<|.c 4)<|.a 0)<|.A<|.i (.f (.c 0) 0 18)<|.c 4) (.a<|.h ax) .e)<|.a<|.h an
def L8:bo:=.d (.b (.a 4)<|.C 9 (.c 1) (.A<|.j (.c 0) 0 50<|.b (.c 9) .d)<|.c 9)<|.d (.b (.a 5)<|.C 10 (.c 1) (.j (.c 0) 0 50<|.b (.c 10) .d)<|.n<|.c 10)<|.d (.g (.a 6) (.j (.c 0) 0 26<|.b (.c 5) .d)<|.d (.b (.a 7)<|.i (.f (.c 0) 0 3)<|.c 6)<|.d (.f<|.o (.c 3)<|.g<|.b (.c 6)<|.b (.i (.f (.c 0) 0 13)<|.c 7) .d)<|.g (.a 8) (.i (.f (.c 0) 0 12)<|.c 7)<|.c (.t (.l cB (.i (.f (.c 0) 0 2)<|.n<|.c 8)<|.a 0)<|.A<|.i (.f (.c 0) 0 18)<|.n<|.c 8) (.d (.b (.i (.f (.c 0) 0 18)<|.n<|.c 8)<|.h an)<|.f<|.o (.c 2)<|.n<|.c 8) .e)<|.a<|.c 4
def L9:bo:=.d (.b (.f (.c 0) 0 26)<|.m cY (.f (.c 0) 0 26)<|.a 1)<|.d (.b (.a 2)<|.j (.c 0) 0 31<|.b (.c 1) .d)<|.d (.f<|.j (.c 0) 0 34<|.b (.c 2) .d)<|.d (.c (.l cB (.c 2)<|.a 0) (.d (.f<|.j (.c 0) 0 46<|.b (.c 1) .d)<|.a .z) .e)<|.d (.b (.b (.a 3)<|.b (.a 4) .d)<|.j (.c 0) 0 49<|.b (.c 1) .d)<|.d (.b (.b (.a 5)<|.b (.a 6) .d)<|.g<|.b (.r 19<|.b (.c 3) .d)<|.b (.c 1) .d)<|.d (.c (.l dj (.c 5)<|.r 19<|.b (.i (.f (.c 0) 0 12)<|.c 1) .d) (.d (.b (.a 7)<|.j (.c 0) 0 43<|.b (.c 5)<|.b (.i (.f (.c 0) 0 13)<|.c 1)<|.b (.c 4) .d)<|.b (.a 6)<|.j (.c 0) 0 27<|.b (.c 5)<|.b (.c 7)<|.b (.l d1 (.k<|.c 3)<|.a 1) .d) .i)<|.d (.b (.a 3)<|.m cY (.af (.c 3)<|.a 1)<|.j (.c 0) 0 30<|.b (.ab (.c 3)<|.a 1) .d)<|.d (.b (.i (.f (.c 0) 0 12)<|.c 6)<|.c 3)<|.d (.c (.l d1 (.k<|.c 3)<|.a 1) (.f<|.j (.c 0) 0 28<|.b (.c 6) .d) .e)<|.d (.f<|.j (.c 0) 0 34<|.b (.D (.l cB (.k<|.c 3)<|.a 1) (.a 0)<|.i (.f (.c 0) 0 2)<|.n<|.i (.c 3)<|.a 1) .d)<|.d (.f<|.j (.c 0) 0 32<|.b (.i (.c 3)<|.a 0)<|.b (.c 6) .d)<|.d (.f<|.j (.c 0) 0 53<|.b (.c 6) .d)<|.f<|.j (.f (.c 0) 0 7) 1 14 .d
def Ma:bo:=.a .z
def Mb:bo:=.a<|.h ax
def Mc:bo:=.d (.f<|.j (.c 0) 0 34<|.b (.a 0) .d)<|.d (.b (.b (.f (.c 0) 0 23)<|.b (.f (.c 0) 0 24) .d)<|.g<|.b (.g .d)<|.b .z .d)<|.d (.b (.a 2)<|.f (.c 0) 0 26)<|.d (.h (.f (.c 0) 0 21)<|.d (.b (.a 3)<|.j (.c 0) 0 47 .d)<|.c (.l dj (.c 3)<|.q 3) (.f<|.j (.c 0) 0 52<|.b (.c 3) .d)<|.c (.t (.l d1 (.f (.c 0) 0 25)<|.a 0)<|.l ij (.m dK (.f (.c 0) 0 26)<|.c 2)<|.f (.c 0) 0 25) (.d (.f<|.j (.c 0) 0 34<|.b (.a 0) .d)<|.a<|.p "unknown")<|.c (.A<|.j (.c 0) 0 54 .d) (.d (.b (.a 4)<|.j (.c 0) 0 56<|.b (.c 1) .d)<|.d (.c (.l cB (.c 4)<|.p "unsat") (.f<|.j (.c 0) 0 34<|.b (.a 0) .d) .e)<|.c (.l dj (.c 4)<|.p "") (.a<|.c 4) .e) .e)<|.d (.b (.f (.c 0) 0 24)<|.f (.c 0) 0 22)<|.d (.f<|.j (.c 0) 0 34<|.b (.a 0) .d)<|.a<|.p "unsat"
def Md:bo:=.d (.c (.l g0 (.j (.c 0) 0 24 .d)<|.k<|.c 1) (.d (.b (.a 2)<|.i (.c 1)<|.j (.c 0) 0 24 .d)<|.d (.c (.l cB (.j (.c 0) 0 23<|.b (.c 2) .d)<|.q 2) (.d (.f<|.j (.c 0) 0 58<|.b (.c 2) .d)<|.a<|.p "unsat") .e)<|.d (.f<|.j (.c 0) 0 33 .d)<|.d (.c (.l cB (.j (.c 0) 0 23<|.b (.c 2) .d)<|.q 0) (.f<|.j (.c 0) 0 32<|.b (.c 2)<|.b (.q 3) .d) .e)<|.a<|.p "") .e)<|.d (.b (.a 3)<|.j (.f (.c 0) 0 7) 1 12<|.b (.f (.c 0) 0 1) .d)<|.d (.c (.l cB (.c 3)<|.a 0) (.a<|.j (.c 0) 0 57 .d) .e)<|.d (.b (.f (.c 0) 0 27)<|.m cY (.f (.c 0) 0 27)<|.a 1)<|.d (.f<|.j (.c 0) 0 33 .d)<|.d (.f<|.j (.c 0) 0 32<|.b (.D (.l cB (.i (.f (.c 0) 0 5)<|.c 3)<|.q 1) (.c 3)<|.v<|.c 3)<|.b (.q 3) .d)<|.a<|.p ""
def Me:bo:=.a<|.p "sat"
def Mf:bo:=.d (.b (.a 2)<|.n<|.c 1)<|.d (.c (.l cB (.i (.f (.c 0) 0 2)<|.c 2)<|.a 0) (.d (.b (.f (.c 0) 0 23)<|.g<|.b (.c 1) .d)<|.d (.b (.f (.c 0) 0 24)<|.D (.K<|.f (.c 0) 0 17) .z<|.j (.c 0) 0 45<|.b (.c 2) .d)<|.a .z) .e)<|.d (.c (.l cB (.i (.f (.c 0) 0 3)<|.c 2)<|.q 3) (.d (.b (.f (.c 0) 0 23)<|.g<|.b (.v<|.c 1)<|.b (.c 1) .d)<|.a .z) .e)<|.d (.b (.b (.a 3)<|.b (.a 4)<|.b (.a 5)<|.b (.a 6)<|.b (.a 7) .d)<|.g<|.b (.e<|.b (.c 1) .d)<|.b (.e .d)<|.b (.e .d)<|.b (.e<|.b (.c 2) .d)<|.b (.i (.f (.c 0) 0 3)<|.c 2) .d)<|.d (.b (.i (.f (.c 0) 0 18)<|.c 2)<|.h an)<|.d (.f<|.j (.c 0) 0 59<|.b (.c 7)<|.b (.c 2)<|.b (.c 6)<|.b (.c 4) .d)<|.d (.g (.a 8) (.x (.m dK (.i (.f (.c 0) 0 4)<|.c 2)<|.a 1) (.m dK (.i (.f (.c 0) 0 9)<|.a 0)<|.a 1)<|.v<|.a 1)<|.d (.b (.a 9)<|.n<|.i (.f (.c 0) 0 8)<|.c 8)<|.c (.t (.i (.f (.c 0) 0 18)<|.c 9)<|.l cB (.i (.f (.c 0) 0 3)<|.c 9)<|.q 3) (.f<|.o (.c 3)<|.i (.f (.c 0) 0 8)<|.c 8)<|.c (.i (.f (.c 0) 0 18)<|.c 9) (.d (.f<|.o (.c 5)<|.g<|.b (.c 9)<|.b (.i (.f (.c 0) 0 13)<|.i (.f (.c 0) 0 3)<|.c 9) .d)<|.f<|.j (.c 0) 0 59<|.b (.i (.f (.c 0) 0 3)<|.c 9)<|.b (.c 9)<|.b (.c 6)<|.b (.c 4) .d) .e)<|.d (.g (.a 9) (.c 6)<|.b (.i (.f (.c 0) 0 18)<|.c 9)<|.h ax)<|.d (.f<|.F (.c 5)<|.j (.c 0) 0 44<|.b (.c 4) .d)<|.d (.b (.f (.c 0) 0 23)<|.E<|.c 3)<|.b (.f (.c 0) 0 24)<|.j (.c 0) 0 43<|.b (.r 19<|.b (.y 10 (.c 3)<|.v<|.c 10) .d)<|.b (.i (.f (.c 0) 0 13)<|.c 7)<|.b (.c 5) .d
def Mg:bo:=.g (.a 5) (.i (.f (.c 0) 0 12)<|.c 1)<|.d (.b (.a 6)<|.n<|.c 5)<|.c (.t (.l dj (.c 6)<|.c 2)<|.A<|.i (.f (.c 0) 0 18)<|.c 6) (.d (.b (.i (.f (.c 0) 0 18)<|.c 6)<|.h an)<|.d (.f<|.o (.c 3)<|.c 6)<|.c (.l cB (.i (.f (.c 0) 0 2)<|.c 6)<|.a 0) (.f<|.o (.c 4)<|.c 6) .e) .e
def Mi:bo:=.a<|.g<|.b (.n<|.c 0)<|.b (.l d1 (.c 0)<|.a 0) .d
def Mj:bo:=.d (.b (.a 1) .S)<|.d (.g (.a 2) (.c 0)<|.d (.c (.l fp (.v<|.c 2)<|.c 1) (.a .z) .e)<|.b (.i (.c 1)<|.c 2)<|.h an)<|.a<|.E<|.M (.c 1) 60
def Mk:bo:=.d (.g (.a 1) (.x (.a 0) (.k<|.c 0)<|.a 1)<|.d (.c (.l cB (.i (.c 0)<|.c 1)<|.a 0) (.a<|.h ax) .e)<|.c (.t (.l d1 (.c 1)<|.a 0)<|.l ij (.n<|.i (.c 0)<|.m dK (.c 1)<|.a 1)<|.n<|.i (.c 0)<|.c 1) (.a<|.h ax) .e)<|.a<|.h an
def Ml:bo:=.d (.c (.t (.l fp (.c 2)<|.c 0)<|.l fp (.v<|.c 2)<|.c 1) (.d (.b (.a 3)<|.C 4 (.c 0) (.l dj (.c 4)<|.c 2)<|.c 4)<|.f<|.F (.c 3)<|.C 5 (.c 1) (.l dj (.c 5)<|.v<|.c 2)<|.c 5)<|.c (.t (.l fp (.v<|.c 2)<|.c 0)<|.l fp (.c 2)<|.c 1) (.d (.b (.a 3)<|.C 6 (.c 0) (.l dj (.c 6)<|.v<|.c 2)<|.c 6)<|.f<|.F (.c 3)<|.C 7 (.c 1) (.l dj (.c 7)<|.c 2)<|.c 7) .i)<|.a<|.r 61<|.b (.c 3) .d
def Mm:bo:=.d (.b (.f (.c 0) 2 13)<|.e .d)<|.d (.b (.f (.c 0) 2 32)<|.e<|.b (.a 0) .d)<|.b (.f (.c 0) 2 33)<|.v<|.a 1
def Mn:bo:=.a<|.i (.i (.f (.c 0) 2 13)<|.c 1)<|.a 1
def Mo:bo:=.d (.b (.a 5)<|.k<|.f (.c 0) 2 13)<|.d (.c (.l mC (.c 1)<|.q 6) .i .e)<|.d (.c (.A<|.r 62<|.b (.c 2) .d) .i .e)<|.d (.g (.a 6) (.c 3)<|.c (.A<|.R pa g0 (.a 0) (.c 6)<|.c 5) .i .e)<|.d (.f<|.o (.f (.c 0) 2 13)<|.g<|.b (.c 1)<|.b (.E<|.c 2)<|.b (.E<|.c 3)<|.b (.c 4) .d)<|.d (.c (.t (.l cB (.k<|.c 2)<|.a 0)<|.l g0 (.f (.c 0) 2 33)<|.a 0) (.b (.f (.c 0) 2 33)<|.c 5) .e)<|.a<|.c 5
def Mp:bo:=.d (.b (.a 3)<|.j (.c 0) 2 65<|.b (.c 1) .d)<|.d (.g (.b (.a 4)<|.b (.a 5) .d) (.c 2)<|.d (.b (.a 3)<|.r 63<|.b (.c 3)<|.b (.j (.c 0) 2 65<|.b (.c 5) .d)<|.b (.c 4) .d)<|.c (.K<|.c 3) .i .e)<|.d (.c (.l cB (.k<|.c 2)<|.a 0) (.a<|.c 1) .e)<|.d (.b (.a 6)<|.m cY (.g<|.b (.c 1) .d)<|.E<|.T 7 8 (.c 2)<|.c 8)<|.a<|.j (.c 0) 2 66<|.b (.p "resolve")<|.b (.c 3)<|.b (.c 6)<|.b (.E<|.T 9 10 (.c 2)<|.c 9) .d
def Mq:bo:=.d (.b (.a 2)<|.al (.c 1)<|.h an)<|.d (.g (.a 3) (.x (.c 1) (.v<|.a 1)<|.v<|.a 1)<|.c (.l fp (.c 3)<|.c 2) (.g (.a 4) (.i (.i (.f (.c 0) 2 13)<|.c 3)<|.a 2)<|.b (.i (.c 2)<|.c 4)<|.h an) .e)<|.a<|.ah<|.c 2
def Mr:bo:=.d (.b (.a 2) .S)<|.d (.g (.a 3) (.j (.c 0) 2 68<|.b (.c 1) .d)<|.c (.l cB (.i (.i (.f (.c 0) 2 13)<|.c 3)<|.a 0)<|.p "input") (.b (.i (.c 2)<|.i (.i (.f (.c 0) 2 13)<|.c 3)<|.a 3)<|.h an) .e)<|.a<|.ah<|.c 2
def Mt:bo:=.d (.b (.a 3)<|.e .d)<|.d (.g (.a 4) (.x (.a 0) (.c 1)<|.a 1)<|.d (.b (.a 5)<|.m hL (.c 0)<|.m lN (.a 2)<|.c 2)<|.d (.b (.a 0)<|.m g4 (.c 0)<|.m lN (.a 2)<|.c 2)<|.f<|.o (.c 3)<|.D (.l g0 (.c 5)<|.c 2) (.m cY (.c 5)<|.a 1)<|.m dK (.m dK (.c 2)<|.c 5)<|.a 1)<|.a<|.c 3
def Mu:bo:=.d (.g (.a 1) (.c 0)<|.c (.l fp (.v<|.c 1)<|.c 0) (.a .z) .e)<|.d (.b (.a 2)<|.e .d)<|.d (.g (.a 3) (.ae<|.y 4 (.c 0)<|.n<|.c 4)<|.f<|.o (.c 2)<|.D (.l fp (.c 3)<|.c 0) (.c 3)<|.v<|.c 3)<|.a<|.E<|.c 2
def Mv:bo:=.a<|.l cB (.i (.c 0)<|.m dK (.n<|.c 1)<|.a 1)<|.l d1 (.c 1)<|.a 0
def Mw:bo:=.a<|.H<|.y 2 (.c 1)<|.r 72<|.b (.c 0)<|.b (.c 2) .d
def Mx:bo:=.a<|.L<|.y 2 (.c 1)<|.r 72<|.b (.c 0)<|.b (.c 2) .d
def My:bo:=.d (.b (.a 1)<|.e<|.b (.g .d) .d)<|.d (.g (.a 2) (.x (.a 0) (.c 0)<|.a 1)<|.b (.a 1)<|.N 3 (.c 1) 4 (.g<|.b (.h ax)<|.b (.h an) .d)<|.m cY (.c 3)<|.g<|.b (.c 4) .d)<|.a<|.c 1
def Mz:bo:=.d (.b (.a 6)<|.j (.c 0) 0 41 .d)<|.d (.c (.B (.A<|.ag<|.c 6)<|.B (.H<|.y 10 (.c 6)<|.l mC (.c 10)<|.c 5)<|.l dj (.ad<|.c 6)<|.k<|.c 6) (.a<|.h ax) .e)<|.d (.c (.H<|.y 11 (.c 4)<|.r 74<|.b (.c 11)<|.b (.c 6) .d) (.a<|.h ax) .e)<|.d (.b (.a 7)<|.j (.c 0) 0 42 .d)<|.d (.c (.H<|.y 12 (.c 6)<|.l fp (.v<|.c 12)<|.c 6) (.a<|.K<|.c 7) .e)<|.d (.c (.B (.K<|.c 7)<|.l dj (.j (.c 1) 2 65<|.b (.c 7) .d)<|.r 71<|.b (.y 13 (.c 6)<|.v<|.c 13) .d) (.a<|.h ax) .e)<|.d (.b (.a 8)<|.y 14 (.j (.c 1) 2 69<|.b (.c 7) .d)<|.i (.c 2)<|.c 14)<|.d (.g (.a 9) (.r 75<|.b (.c 3) .d)<|.c (.t (.r 74<|.b (.c 9)<|.b (.c 6) .d)<|.L<|.y 15 (.c 8)<|.r 73<|.b (.c 9)<|.b (.c 15) .d) (.a<|.h ax) .e)<|.a<|.h an
def MA:bo:=.d (.b (.a 6)<|.j (.c 0) 0 55<|.b (.ac<|.c 5) .d)<|.d (.b (.a 7)<|.C 9 (.c 4) (.r 74<|.b (.c 9)<|.b (.c 5) .d)<|.c 9)<|.d (.c (.l d1 (.k<|.c 7)<|.a 0) (.d (.b (.a 8)<|.y 10 (.x (.a 1) (.m cY (.c 3)<|.a 1)<|.a 1)<|.j (.c 0) 0 23<|.b (.c 10) .d)<|.d (.c (.B (.l dj (.c 6)<|.p "sat")<|.B (.l dj (.j (.c 0) 0 41 .d)<|.g .d)<|.l fp (.a 0)<|.c 8) (.a<|.h ax) .e)<|.a<|.l fp (.E<|.y 11 (.c 8)<|.l d1 (.c 11)<|.a 0)<|.c 7) .e)<|.a<|.t (.l cB (.c 6)<|.p "unsat")<|.r 76<|.b (.c 0)<|.b (.c 1)<|.b (.c 2)<|.b (.c 3)<|.b (.c 4)<|.b (.c 5) .d
def MB:bo:=.d (.c (.A<|.r 77<|.b (.c 0)<|.b (.c 1)<|.b (.c 2)<|.b (.c 3)<|.b (.c 4)<|.b (.c 5) .d) (.a<|.h ax) .e)<|.d (.c (.H<|.y 6 (.c 4)<|.r 74<|.b (.c 6)<|.b (.c 5) .d) (.a<|.h an) .e)<|.a<|.r 77<|.b (.c 0)<|.b (.c 1)<|.b (.c 2)<|.b (.c 3)<|.b (.c 4)<|.b (.j (.c 0) 0 41 .d) .d
def MC:bo:=.d (.b (.a 1)<|.u 2 64 .d)<|.d (.b (.a 2)<|.u 0 38<|.b (.c 1)<|.b .z .d)<|.d (.b (.a 3)<|.m cY (.a 2)<|.D (.l d1 (.k<|.c 0)<|.a 0) (.m hL (.n<|.i (.c 0)<|.a 0)<|.a 3)<|.a 0)<|.d (.g (.a 4) (.x (.a 0) (.c 3)<|.a 1)<|.f<|.j (.c 2) 0 39 .d)<|.d (.b (.b (.a 5)<|.b (.a 6) .d)<|.g<|.b (.e .d)<|.b (.r 75<|.b (.c 3) .d) .d)<|.d (.g (.a 7) (.Q (.c 0) (.a 1)<|.a 12)<|.d (.b (.b (.a 8)<|.b (.a 9) .d)<|.g<|.b (.m hL (.n<|.c 7)<|.a 8)<|.b (.m g4 (.n<|.c 7)<|.a 8) .d)<|.c (.t (.l cB (.c 8)<|.a 7)<|.l g0 (.c 3)<|.a 4) (.d (.c (.l dj (.j (.c 2) 0 39 .d)<|.m cY (.c 3)<|.a 1) (.a<|.h ax) .e)<|.d (.b (.a 3)<|.m cY (.c 3)<|.a 1)<|.b (.a 6)<|.N 13 (.c 6) 14 (.g<|.b (.h ax)<|.b (.h an) .d)<|.m cY (.c 13)<|.g<|.b (.c 14) .d)<|.c (.l ij (.c 8)<|.a 5) (.c (.A<|.r 78<|.b (.c 2)<|.b (.c 1)<|.b (.c 5)<|.b (.c 3)<|.b (.c 6)<|.b (.E<|.r 70<|.b (.m g4 (.c 9)<|.a 4)<|.b (.m hL (.c 9)<|.a 4)<|.b (.c 3) .d) .d) (.a<|.h ax) .e)<|.d (.b (.a 10)<|.r 70<|.b (.m g4 (.c 9)<|.a 3)<|.b (.D (.l cB (.m hL (.c 9)<|.a 53)<|.a 52) (.a 0)<|.m cY (.a 1)<|.m hL (.c 9)<|.a 3)<|.b (.c 3) .d)<|.d (.b (.b (.a 11)<|.b (.a 12) .d)<|.g<|.b .z<|.b (.r 71<|.b (.c 10) .d) .d)<|.d (.c (.X<|.c 12) (.d (.b (.a 11)<|.j (.c 1) 2 66<|.b (.p "input")<|.b (.c 12)<|.b (.g .d)<|.b (.k<|.c 5) .d)<|.f<|.o (.c 5)<|.c 12) .e)<|.d (.b (.a 6)<|.C 15 (.c 6) (.r 73<|.b (.c 15)<|.b (.c 10) .d)<|.c 15)<|.c (.t (.A<|.j (.c 2) 0 40<|.b (.c 10)<|.b (.c 11) .d)<|.l d1 (.k<|.c 6)<|.a 0) (.a<|.h ax) .e)<|.d (.c (.A<|.r 78<|.b (.c 2)<|.b (.c 1)<|.b (.c 5)<|.b (.c 3)<|.b (.c 6)<|.b (.g<|.b (.a 1)<|.b (.v<|.a 2) .d) .d) (.a<|.h ax) .e)<|.a<|.r 78<|.b (.c 2)<|.b (.c 1)<|.b (.c 5)<|.b (.c 3)<|.b (.c 6)<|.b (.g .d) .d
def IB:bg×aU×U (aQ×O):=(⟨2,3,[],Ln⟩,334,[("self",0),("number",1),("lits",2)])
def vP:bg×aU×U (aQ×O):=(⟨1,2,[.a 1000000000000],Lo⟩,93,[("self",0),("limit",1)])
def IM:bg×aU×U (aQ×O):=(⟨1,1,[],Ly⟩,100,[("self",0)])
def IX:bg×aU×U (aQ×O):=(⟨2,2,[],LK⟩,107,[("self",0),("var",1)])
def I7:bg×aU×U (aQ×O):=(⟨3,3,[],LV⟩,114,[("self",0),("one",1),("other",2)])
def Ji:bg×aU×U (aQ×O):=(⟨2,2,[],L6⟩,121,[("self",0),("n",1)])
def Jt:bg×aU×U (aQ×O):=(⟨3,3,[],Mh⟩,128,[("self",0),("spot",1),("var",2)])
def JE:bg×aU×U (aQ×O):=(⟨2,4,[],Ms⟩,135,[("self",0),("spot",1),("var",2),("above",3)])
def JP:bg×aU×U (aQ×O):=(⟨2,4,[],MD⟩,142,[("self",0),("spot",1),("left",2),("right",3)])
def JQ:bg×aU×U (aQ×O):=(⟨2,4,[],ME⟩,149,[("self",0),("spot",1),("var",2),("below",3)])
def IC:bg×aU×U (aQ×O):=(⟨2,2,[],Lp⟩,156,[("self",0),("var",1)])
def ID:bg×aU×U (aQ×O):=(⟨1,3,[],Lq⟩,163,[("self",0),("best",1),("last",2)])
def IE:bg×aU×U (aQ×O):=(⟨2,3,[],Lr⟩,170,[("self",0),("known",1),("var",2)])
def IF:bg×aU×U (aQ×O):=(⟨2,2,[],Ls⟩,177,[("self",0),("var",1)])
def IG:bg×aU×U (aQ×O):=(⟨1,1,[],Lt⟩,184,[("self",0)])
def IH:bg×aU×U (aQ×O):=(⟨1,5,[],Lu⟩,189,[("self",0),("greatest",1),("amount",2),("by",3)])
def II:bg×aU×U (aQ×O):=(⟨1,2,[],Lv⟩,196,[("self",0),("spot",1)])
def IJ:bg×aU×U (aQ×O):=(⟨1,1,[],Lw⟩,210,[("lit",0)])
def IK:bg×aU×U (aQ×O):=(⟨1,1,[],Lx⟩,217,[("lit",0)])
def IL:bg×aU×U (aQ×O):=(⟨1,3,[],B7⟩,224,[("lits",0),("found",1),("lit",2)])
def IN:bg×aU×U (aQ×O):=(⟨1,2,[],Lz⟩,231,[("clause",0),("k",1)])
def A5:bg×aU×U (aQ×O):=(⟨2,2,[],LA⟩,245,[("self",0),("hook",1)])
def IP:bg×aU×U (aQ×O):=(⟨1,2,[],LB⟩,252,[("self",0),("var",1)])
def IQ:bg×aU×U (aQ×O):=(⟨2,2,[],LC⟩,266,[("self",0),("lit",1)])
def IR:bg×aU×U (aQ×O):=(⟨1,1,[],LD⟩,273,[("self",0)])
def IS:bg×aU×U (aQ×O):=(⟨2,2,[],LF⟩,280,[("self",0),("var",1)])
def IT:bg×aU×U (aQ×O):=(⟨2,2,[],LG⟩,287,[("self",0),("some",1)])
def IU:bg×aU×U (aQ×O):=(⟨4,5,[],LH⟩,294,[("self",0),("clause",1),("step",2),("can_drop",3),("number",4)])
def IV:bg×aU×U (aQ×O):=(⟨2,3,[],LI⟩,301,[("self",0),("number",1),("lits",2)])
def IW:bg×aU×U (aQ×O):=(⟨2,2,[],LJ⟩,313,[("self",0),("lit",1)])
def IY:bg×aU×U (aQ×O):=(⟨2,3,[],LL⟩,320,[("self",0),("lits",1),("found",2)])
def IZ:bg×aU×U (aQ×O):=(⟨2,4,[],LM⟩,327,[("self",0),("number",1),("top",2),("lit",3)])
def I0:bg×aU×U (aQ×O):=(⟨3,4,[],LN⟩,341,[("self",0),("lit",1),("number",2),("var",3)])
def I1:bg×aU×U (aQ×O):=(⟨1,1,[],LO⟩,348,[("self",0)])
def I2:bg×aU×U (aQ×O):=(⟨2,6,[],LP⟩,355,[("self",0),("level",1),("count",2),("start",3),("spot",4),("var",5)])
def I3:bg×aU×U (aQ×O):=(⟨1,3,[],LQ⟩,362,[("self",0),("gone",1),("conflict",2)])
def I4:bg×aU×U (aQ×O):=(⟨2,8,[],LR⟩,369,[("self",0),("gone",1),("watching",2),("kept",3),("conflict",4),("spot",5),("number",6),("lits",7)])
def I5:bg×aU×U (aQ×O):=(⟨3,4,[],LS⟩,376,[("self",0),("number",1),("lits",2),("k",3)])
def vQ:bg×aU×U (aQ×O):=(⟨3,3,[],B8⟩,406,[("self",0),("proof",1),("hook",2)])
def I6:bg×aU×U (aQ×O):=(⟨1,1,[],LU⟩,413,[("self",0)])
def I8:bg×aU×U (aQ×O):=(⟨3,5,[],LW⟩,420,[("self",0),("lits",1),("step",2),("clause",3),("conflict",4)])
def I9:bg×aU×U (aQ×O):=(⟨1,1,[],LX⟩,434,[("self",0)])
def Ja:bg×aU×U (aQ×O):=(⟨1,1,[],LY⟩,441,[("self",0)])
def Jb:bg×aU×U (aQ×O):=(⟨4,5,[],LZ⟩,448,[("self",0),("clause",1),("first",2),("pairs",3),("step",4)])
def Jc:bg×aU×U (aQ×O):=(⟨2,3,[],L0⟩,453,[("self",0),("some",1)])
def Jd:bg×aU×U (aQ×O):=(⟨2,6,[],L1⟩,460,[("self",0),("var",1),("lit",2),("number",3),("pairs",4),("late",5)])
def Je:bg×aU×U (aQ×O):=(⟨2,4,[],L2⟩,465,[("self",0),("number",1),("pairs",2)])
def Jf:bg×aU×U (aQ×O):=(⟨1,1,[],L3⟩,472,[("self",0)])
def Jg:bg×aU×U (aQ×O):=(⟨5,8,[],L4⟩,479,[("self",0),("number",1),("skipped",2),("rest",3),("roots",4),("count",5),("lit",6),("var",7)])
def Jh:bg×aU×U (aQ×O):=(⟨2,13,[],L5⟩,484,[("self",0),("conflict",1),("rest",2),("roots",3),("pairs",4),("done",5),("count",6),("spot",7),("lit",8),("number",9),("var",10),("kept",11)])
def Jj:bg×aU×U (aQ×O):=(⟨2,5,[],L7⟩,491,[("self",0),("lit",1),("number",2),("late",3),("var",4)])
def Jk:bg×aU×U (aQ×O):=(⟨4,11,[],L8⟩,496,[("self",0),("rest",1),("roots",2),("pairs",3),("kept",4),("gone",5),("var",6),("number",7),("late",8)])
def Jl:bg×aU×U (aQ×O):=(⟨2,8,[],L9⟩,503,[("self",0),("conflict",1),("top",2),("lits",3),("pairs",4),("clause",5),("number",6),("step",7)])
def Jm:bg×aU×U (aQ×O):=(⟨2,2,[],Ma⟩,510,[("self",0),("number",1)])
def Jn:bg×aU×U (aQ×O):=(⟨1,1,[],Mb⟩,517,[("self",0)])
def Jo:bg×aU×U (aQ×O):=(⟨2,5,[],Mc⟩,524,[("self",0),("assumptions",1),("begun",2),("conflict",3),("answer",4)])
def Jp:bg×aU×U (aQ×O):=(⟨2,4,[],Md⟩,531,[("self",0),("assumptions",1),("lit",2),("var",3)])
def Jq:bg×aU×U (aQ×O):=(⟨1,1,[],Me⟩,538,[("self",0)])
def Jr:bg×aU×U (aQ×O):=(⟨2,11,[],Mf⟩,543,[("self",0),("lit",1),("var",2),("found",3),("roots",4),("pairs",5),("marked",6),("first",7),("spot",8),("late",9)])
def Js:bg×aU×U (aQ×O):=(⟨5,7,[],Mg⟩,550,[("self",0),("number",1),("skipped",2),("marked",3),("roots",4),("lit",5),("var",6)])
def Ju:bg×aU×U (aQ×O):=(⟨1,1,[],Mi⟩,563,[("literal",0)])
def Jv:bg×aU×U (aQ×O):=(⟨1,3,[],Mj⟩,570,[("literals",0),("kept",1),("literal",2)])
def Jw:bg×aU×U (aQ×O):=(⟨1,2,[],Mk⟩,577,[("clause",0),("place",1)])
def Jx:bg×aU×U (aQ×O):=(⟨3,8,[],Ml⟩,582,[("one",0),("other",1),("variable",2),("rest",3)])
def Jy:bg×aU×U (aQ×O):=(⟨1,1,[],Mm⟩,596,[("self",0)])
def Jz:bg×aU×U (aQ×O):=(⟨2,2,[],Mn⟩,631,[("self",0),("step",1)])
def JA:bg×aU×U (aQ×O):=(⟨5,7,[],Mo⟩,645,[("self",0),("rule",1),("clause",2),("premises",3),("note",4),("number",5),("one",6)])
def JB:bg×aU×U (aQ×O):=(⟨3,11,[],Mp⟩,650,[("self",0),("first",1),("pairs",2),("stand",3),("variable",4),("other",5),("premises",6)])
def JC:bg×aU×U (aQ×O):=(⟨2,5,[],Mq⟩,671,[("self",0),("last",1),("wanted",2),("number",3),("one",4)])
def JD:bg×aU×U (aQ×O):=(⟨2,4,[],Mr⟩,690,[("self",0),("last",1),("found",2),("number",3)])
def JF:bg×aU×U (aQ×O):=(⟨3,6,[],Mt⟩,712,[("left",0),("size",1),("n",2),("found",3),("lap",4),("code",5)])
def JG:bg×aU×U (aQ×O):=(⟨1,5,[],Mu⟩,717,[("literals",0),("one",1),("rows",2),("var",3)])
def JH:bg×aU×U (aQ×O):=(⟨2,2,[],Mv⟩,724,[("world",0),("literal",1)])
def JI:bg×aU×U (aQ×O):=(⟨2,3,[],Mw⟩,729,[("world",0),("clause",1)])
def JJ:bg×aU×U (aQ×O):=(⟨2,3,[],Mx⟩,734,[("world",0),("literals",1)])
def JK:bg×aU×U (aQ×O):=(⟨1,5,[],My⟩,739,[("n",0),("found",1),("var",2)])
def JL:bg×aU×U (aQ×O):=(⟨6,16,[],Mz⟩,744,[("core",0),("proof",1),("given",2),("n",3),("worlds",4),("asked",5),("failed",6),("step",7),("used",8),("world",9)])
def JM:bg×aU×U (aQ×O):=(⟨6,12,[],MA⟩,749,[("core",0),("proof",1),("given",2),("n",3),("worlds",4),("asked",5),("answer",6),("fits",7),("told",8)])
def JN:bg×aU×U (aQ×O):=(⟨6,7,[],MB⟩,754,[("core",0),("proof",1),("given",2),("n",3),("worlds",4),("asked",5)])
def JO:bg×aU×U (aQ×O):=(⟨1,16,[],MC⟩,759,[("script",0),("proof",1),("core",2),("n",3),("lap",4),("given",5),("worlds",6),("number",7),("kind",8),("left",9),("clause",10),("step",11),("plain",12)])
def p1:U<|bg×aU×U (aQ×O):=[IB,vP,IM,IX,I7,Ji,Jt,JE,JP,JQ,IC,ID,IE,IF,IG,IH,II,IJ,IK,IL,IN,A5,IP,IQ,IR,IS,IT,IU,IV,IW,IY,IZ,I0,I1,I2,I3,I4,I5,vQ,I6,I8,I9,Ja,Jb,Jc,Jd,Je,Jf,Jg,Jh,Jj,Jk,Jl,Jm,Jn,Jo,Jp,Jq,Jr,Js,Ju,Jv,Jw,Jx,Jy,Jz,JA,JB,JC,JD,JF,JG,JH,JI,JJ,JK,JL,JM,JN,JO]
def a2(n:O):a3 bg:=(p1[n]?).map (·.1)
structure bl where
 b:cN->aU
 c:O->aU
 a:av
 d:bB
def av.h(N:av)(l:cN):Prop:=∃x,N.g l=Y x
def CU(a b s:am):Prop:=ao a<2^30/\ao b<2^30/\(s=1\/s=-1)
def nq(n:O):cN->Prop|.e k=>k<n|.b _ _=>im|.a _ _ _=>im|.f _=>bW
end
mutual inductive aY(c:bl):V->aZ->Prop|z:aY c .z dL|h(m:ba):aY c (.h m)<|jw m|a(i:am)(t:eV):aY c (.a i)<|cS i t|p(q:iW)(t:eV):aY c (.p q)<|fz (gG q) t|g{l:U V}{f:aU}{T:cQ aZ}{n:O}:c.d.heap.get? f=Y ⟨bq "tuple",au,c9 T n,#[]⟩->bm c l (cx T)->aY c (.g l) (aN f)|b(o:O):c.a.f o=an->aY c (.b o) (aN<|c.c o)|x{f m s:am}{r:aU}{t u v:eV}:CU f m s->IsRange (bz c.d) r f m s t u v->aY c (.x f m s) (aN r)|e{w:O}{f:aU}:w<c.a.d->(c.a.h (.e w)->f=c.b (.e w))->aY c (.e w) (aN f)|j{l:cN}{A:O}{f:aU}:nq 0 l->A<=c.a.e l->(A=c.a.e l->c.a.h l->f=c.b l)->aY c (.j l A) (aN f)|k(f:O):aY c (.k f)<|aN f inductive bm(c:bl):U V->U aZ->Prop|d:bm c [] []|b{q:V}{y:aZ}{l:U V}{r:U aZ}:aY c q y->bm c l r->bm c (q::l) (y::r)end
@[elab_as_elim]theorem bm.j{c:bl}{P:U V->U aZ->Prop}{l:U V}{r:U aZ}(h:bm c l r)(n:P [] [])(k:∀x y l r,aY c x y->bm c l r->P l r->P (x::l) (y::r)):P l r:=h.rec (motive_1:=λp p p=>im) bk (λp=>bk) (λp p=>bk) (λp p=>bk) (λp p p=>bk) (λp p=>bk) (λp p=>bk) (λp p=>bk) (λp p p=>bk) (λp=>bk) n λh t p a=>k _ _ _ _ h t a
section
variable{c:bl}{l:U V}{r:U aZ}
theorem bm.a(h:bm c l r):Z l=Z r:=h.j I λp p p p p p e=>aW (·+1) e
theorem bm.g(h:bm c l r){i:O}(e:l[i]?=Y v):∃x,r[i]?=Y x/\aY c v x:=by refine h.j (λi e=>aC ((Su).symm.trans e) ar) (λx y l r M p a i e=>?_) i e;induction i with|zero=>exact aF y I<|az (bE e) M|succ i=>exact a i e
theorem bm.o(h:bm c l r)(a:bm c x y):bm c (l++x)<|r++y:=h.j a λp p p p M p e=>.b M e
theorem bm.m(h:bm c l r)(n:O):bm c (l.take n)<|r.take n:=by
 refine h.j (λn=>J SL<|J SL .d) (λx y l r M p a n=>?_) n
 .induction n with|zero=>exact .d|succ n=>exact .b M<|a n
theorem bm.w(h:bm c l r)(n:O):bm c (l.drop n)<|r.drop n:=by
 refine h.j (λn=>J Sm<|J Sm .d) (λx y l r M h a n=>?_) n
 .induction n with|zero=>exact .b M h|succ n=>exact a n
theorem bm.e(h:bm c l r)(P:aY c v x):bm c (l.set q v)<|r.set q x:=by refine h.j (λp=>.d) (λx y l r M h a q=>?_) q;induction q with|zero=>exact .b P h|succ q=>exact .b M<|a q
end
mutual
theorem bm.u(h:bm q s t)(P:aY q v x):bm q (s++[v])<|t++[x]:=h.o<|.b P .d
def n8(n:O):iW:=bS (["hook","assigns","levels","reasons","spots","phases","watches","heap","trail","starts","head","told","clauses","steps","droppable","activities","learnt_count","proof","seen","unit_steps","rooted","is_ok","empty_step","failed","failed_at","conflict_limit","conflicts","decisions","limit","step","activity","place","named"]:U iW) n "empty"
def fY:O:=34
def V.m:V->ba|.d=>ax|_=>an
structure iY(c:bl)(h:U iV)(f:O->V):Prop where
 g:∀e∈h,∃i t,i<fY/\e.key=fz (gG<|n8 i) t/\f i≠.d
 a:Z h<=(b2 fY).countP λi=>(f i).m
 b:∀i,i<fY->f i≠.d->∃v,pj (gG<|n8 i) h=Y (Y v)/\aY c (f i) v
inductive fs(c:bl):U (am×V)->U (am×aZ)->Prop|d:fs c [] []|b{i:am}{x:V}{v:aZ}{a:U (am×V)}{r:U (am×aZ)}:aY c x v->fs c a r->fs c ((i,x)::a) ((i,v)::r)
structure bZ where
 b:g3
 a:fB
 d:et
 c:j2
 f:OsState
 h:aQ->a3 aZ
 g:aQ->a3 aZ
structure bZ.e(B:bZ):Prop where
 a:B.d.In B.c
 r:B.c.Ns eO B.h
 b:B.c.Ns rx B.g
 c:B.c.NoLimit
 d:∀x:aQ,x≠"__name__"->B.g x=pm x
def fG(B:bZ)(c:bl)(g:aU):b8->Prop|.e l=>∃T n,c.d.heap.get? g=Y ⟨bq "list",au,c9 T n,#[]⟩/\bm c l (cx T)|.b d=>∃h,c.d.heap.DictOf (ga B.b B.a) g h/\fs c d h/\(g==ue)=ax|.a f=>∃i n,c.d.heap.get? g=Y (kX i n)/\iY c i f
def cw:O->aU|0=>553|1=>199|_=>703
structure aV(B:bZ)(c:bl):Prop where
 d:∀b o,B.c.get? b=Y o->c.d.heap.get? b=Y o
 j:c.d.gens=#[]
 f:c.d.os=B.f
 g:∀l x,c.a.g l=Y x->fG B c (c.b l) x
 r:∀l,c.a.h l->B.c.get? (c.b l)=au
 inj:∀l e,c.a.h l->c.a.h e->c.b l=c.b e->l=e
 s:∀o,c.a.f o=an->c.d.heap.get? (c.c o)=Y ⟨aN<|cw o,Y<|c.b<|.f o,nI,#[]⟩
 q:∀k,c.a.d<=k->c.a.a k=au
 m:∀a l,c.a.m a=Y l->∃X n,B.c.get? a=Y ⟨bq "list",au,c9 X n,#[]⟩/\iU (cx X) l
def lU(o:ik):Prop:=(o.cls=bq "list"/\∃R n,o.data=c9 R n)\/∃a n,o.data=.dict a n
theorem fG.b(h:fG B d g x):∃o,d.d.heap.get? g=Y o/\lU o:=by induction x with|e l=>exact cF h λp p i p=>aF _ i<|aK<|J6 I _ _ I|b l=>exact ay h λp S p=>hw S λp p p i p j p=>aF _ i<|a1<|fu _ _ j|a f=>exact cF h λp p i p=>aF _ i<|a1<|fu _ _ I
theorem aV.b(R:aV B a)(h:a.a.h x):∃o,a.d.heap.get? (a.b x)=Y o/\lU o:=bH h λp e=>(R.g x _ e).b
theorem aV.n(R:aV B x)(s:x.d.heap.get? a=Y o)(z:¬lU o):∀L,x.a.h L->x.b L≠a:=λL b e=>by refine ay (R.b b) λy A i=>?_;replace A:=s▸e▸A;obtain rfl:=bE A;exact z i
structure a8(X:aU->Prop)(c a:bl):Prop where
 p:∀b o,c.d.heap.get? b=Y o->¬X b->(∀l,c.a.h l->c.b l≠b)->a.d.heap.get? b=Y o
 n:∀b o,c.d.heap.get? b=Y o->∃y,a.d.heap.get? b=Y y
 g:∀l,a.a.h l->(∃i,c.a.h i/\c.b i=a.b l)\/c.d.heap.get? (a.b l)=au
 d:c.a.d<=a.a.d
 e:∀l,c.a.e l<=a.a.e l
 q:∀k,a.a.e (.e k)=c.a.e (.e k)
 m:∀l,a.a.e l=c.a.e l->nq c.a.d l->a.a.h l->c.a.h l/\a.b l=c.b l
 f:∀o,c.a.f o=an->a.a.f o=an/\a.c o=c.c o
def ce:aU->Prop:=λp=>bW
theorem a8.j(X:aU->Prop)(c:bl):a8 X c c:=⟨λp p e p p=>e,λp o e=>⟨o,e⟩,λl h=>aK<|aF l h I,b4 _,λp=>b4 _,λp=>I,λp p p h=>⟨h,I⟩,λp h=>⟨h,I⟩⟩
theorem a8.i(x:a8 X s t)(y:a8 X t L):a8 X s L where
 p j o r M u:=y.p j o (x.p j o r M u) M λl K w=>by
  refine aE (x.g l K) (λv=>ay v λA B z=>u A B<|bx z w) λh=>?_
  .rw[w,r]at h;exact aC h ar
 n j o r:=bH (x.n j o r) λH C=>y.n j H C
 g l u:=by
  refine aE (y.g l u) (λv=>ay v λA B z=>aE (x.g A B) (λv=>ay v λN P Q=>aK<|aF N P<|bx Q z) λh=>a1<|az z h) λh=>?_
  .right;cases w:s.d.heap.get? (L.b l)with|none=>rfl|some o=>refine bH (x.n _ _ w) λH C=>?_;rw[C]at h;exact aC h ar
 d:=aH x.d y.d
 e l:=aH (x.e l)<|y.e l
 q k:=(y.q k).trans<|x.q k
 m l r D u:=by
  haveI R:nq t.a.d l:=by induction l with|e k=>exact ci D x.d|b _ _=>trivial|a _ _ _=>trivial|f _=>exact D
  exact aM (y.m l (zt r (x.e l)<|y.e l) R u) λE j=>aM (x.m l (zu r (x.e l)<|y.e l) D E) λF G=>⟨F,bx j G⟩
 f o h:=aM (x.f o h) λE j=>aM (y.f o E) λF G=>⟨F,bx G j⟩
theorem a8.k(x:a8 X t v)(h:∀s,X s->w s):a8 w t v:=⟨λs o e a d=>x.p s o e (λM=>a<|h s M) d,x.n,x.g,x.d,x.e,x.q,x.m,x.f⟩
theorem a8.o(x:a8 X t v)(h:∀s,X s->w s\/t.d.heap.get? s=au):a8 w t v:=⟨λs a e d f=>x.p s a e (λM=>by
 refine aE (h s M) (λq=>d q) λq=>?_
 .rw[e]at q;exact aC q ar) f,x.n,x.g,x.d,x.e,x.q,x.m,x.f⟩
def lT(o:ik):Prop:=(∃a n,o.data=.dict a n)\/(∃v,o.data=tY v)\/∃n,o.cls=bq n/\n≠"tuple"/\n≠"range"
def k7(X:aU->Prop)(c:bl):Prop:=∀b,X b->∀o,c.d.heap.get? b=Y o->lT o
theorem cn(c:bl):k7 ce c:=λp h=>be h
theorem KL:¬lU ⟨bq "tuple",d,c9 R n,v⟩:=λh=>by
 refine aE h (λX=>aM X λh p=>?_) λX=>f2 X λp p h=>?_
 .simp at h
 .cases h
theorem KI:¬lU ⟨v,d,fo R,a⟩:=λh=>by rcases h with⟨_,_,_,h⟩|⟨_,_,h⟩<;>cases h
theorem v7(h:o.data=tY v):¬lU o:=λq=>by rcases q with⟨_,_,_,q⟩|⟨_,_,q⟩<;>(replace q:=h▸q;cases q)
theorem KJ:¬lU ⟨v,d,nI,a⟩:=λh=>by rcases h with⟨_,_,_,h⟩|⟨_,_,h⟩<;>cases h
theorem HX:¬lT ⟨bq "tuple",d,c9 R n,v⟩:=λh=>by rcases h with⟨_,_,h⟩|⟨_,h⟩|⟨n,h,A,i⟩<;>first|exact A (by injection h with h;exact h.symm)|cases h
theorem HW:¬lT ⟨bq "range",d,fo R,v⟩:=λh=>by rcases h with⟨_,_,h⟩|⟨_,h⟩|⟨n,h,A,i⟩<;>first|exact i (by injection h with h;exact h.symm)|cases h
structure c6(c h:bl):Prop where
 g:∀a X n,c.d.heap.get? a=Y ⟨bq "tuple",au,c9 X n,#[]⟩->h.d.heap.get? a=Y ⟨bq "tuple",au,c9 X n,#[]⟩
 x:∀r a b s t u v,IsRange (bz c.d) r a b s t u v->IsRange (bz h.d) r a b s t u v
 d:c.a.d<=h.a.d
 e:∀l,c.a.e l<=h.a.e l
 q:∀k,h.a.e (.e k)=c.a.e (.e k)
 m:∀l,h.a.e l=c.a.e l->nq c.a.d l->h.a.h l->c.a.h l/\h.b l=c.b l
 f:∀o,c.a.f o=an->h.a.f o=an/\h.c o=c.c o
theorem a8.a(R:aV B s)(h:k7 X s)(S:a8 X s t):c6 s t where
 g _ _ _ b:=S.p _ _ b (λM=>HX<|h _ M _ b)<|R.n b KL
 x _ _ _ _ _ _ _ b:=S.p _ _ b (λM=>HW<|h _ M _ b)<|R.n b KI
 d:=S.d
 e:=S.e
 q:=S.q
 m:=S.m
 f:=S.f
theorem aY.f(S:c6 y w)(n:aY y A B):aY w A B:=n.rec (motive_2:=λl r t=>bm w l r) .z .h .a .p (λm t E=>.g (S.g _ _ _ m) E) (λo n=>az (S.f o n).2<|.b o (S.f o n).1) (λF m=>.x F<|S.x _ _ _ _ _ _ _ m) (λ{D G}i u=>.e (ci i S.d) λs=>(u (S.m _ (S.q D) i s).1).trans (S.m _ (S.q D) i s).2.symm) (λ{l H G}C i u=>.j C (aH i<|S.e _) λm s=>haveI q:=S.m _ ((dR [1,1,0,1] [1,0,0,0,1] I I:ap 3 0 [.g .a .b,.a .a .f,.g .b .f] (.a .f .b)) i m<|S.e l) (by induction l<;>first|trivial|exact C.elim|exact absurd C<|Nat.not_lt_zero _) s;(u ((dR [1,1] [1,0,0,1,1] I I:ap 3 0 [.g .a .b,.a .a .f,.g .b .f] (.a .a .b)) i m<|S.e l) q.1).trans q.2.symm) .k .d λt t=>.b
theorem bm.f(S:c6 q s)(h:bm q t v):bm s t v:=h.j .d λp p p p h p a=>.b (h.f S) a
theorem aY.i(R:aV B w)(M:k7 X w)(S:a8 X w y)(d:aY w A C):aY y A C:=d.f<|S.a R M
theorem bm.i(R:aV B q)(M:k7 X q)(S:a8 X q s)(h:bm q t v):bm s t v:=h.f<|S.a R M
theorem fs.f(S:c6 e j)(h:fs e k m):fs j k m:=by induction h with|d=>exact .d|b h _ a=>exact .b (aY.f S h) a
theorem iY.f(S:c6 d j)(h:iY d k m):iY j k m:=⟨h.g,h.a,λi y a=>ay (h.b i y a) λv e q=>aF v e<|q.f S⟩
theorem fG.f(S:c6 g j)(k:∀o,g.d.heap.get? d=Y o->j.d.heap.get? d=Y o)(h:fG B g d x):fG B j d x:=by induction x with|e l=>exact cF h λX n i h=>dr X n (k _ i)<|h.f S|b l=>exact ay h λp i h=>⟨p,gi i λo m H z r=>h4 o m H (k _ z) r,h.1.f S,h.2⟩|a q=>exact cF h λm n i h=>dr m n (k _ i)<|h.f S
theorem fG.i(R:aV B d)(M:k7 X d)(S:a8 X d e)(k:∀o,d.d.heap.get? a=Y o->e.d.heap.get? a=Y o)(h:fG B d a x):fG B e a x:=h.f (S.a R M) k
def bl.h(c:bl)(X:bB):bl:={c with d:=X}
structure cj(s X:bB):Prop where
 p:∀b o,s.heap.get? b=Y o->X.heap.get? b=Y o
 j:X.gens=s.gens
 f:X.os=s.os
theorem cj.a(s:bB)(n:O):cj s {s with toks:=n}:=⟨λp p e=>e,I,I⟩
theorem cj.o(s:bB)(a:ik):cj s {s with heap:=co s.heap a}:=⟨λp p e=>dJ _ e,I,I⟩
theorem cj.b(s:bB)(k:∀d e,s.heap.get? d=Y e->g.get? d=Y e):cj s {s with heap:=g,toks:=n}:=⟨k,I,I⟩
theorem cj.i(x:cj s X)(y:cj X d):cj s d:=⟨λb o e=>y.p b o<|x.p b o e,bx y.j x.j,bx y.f x.f⟩
theorem a8.h(X:aU->Prop)(g:cj s.d t):a8 X s<|s.h t:=⟨λb o e p p=>g.p b o e,λb o e=>⟨o,g.p b o e⟩,λl a=>aK<|aF l a I,b4 _,λp=>b4 _,λp=>I,λp p p a=>⟨a,I⟩,λp a=>⟨a,I⟩⟩
theorem aV.h(R:aV B a)(i:cj a.d X):aV B<|a.h X where
 d b o e:=i.p b o<|R.d b o e
 j:=bx i.j R.j
 f:=bx i.f R.f
 g l x e:=fG.i R (cn a) (a8.h ce i) (λo=>i.p _ o)<|R.g l x e
 r:=R.r
 inj:=R.inj
 s o e:=i.p _ _<|R.s o e
 q:=R.q
 m:=R.m
structure bT where
 d:U<|aQ×lM
 b:U<|aQ×O
structure da(A:cR)(d:O):Prop where
 a:A.handled=au
 b:A.depth+3*d<900
 c:A.units+60*d<9000
def ek(c:bl)(L:U V)(i:O)(A:a3 aZ):Prop:=∀v,c5 L i=Y v->∃x,A=Y x/\aY c v x
theorem ek.i(R:aV B d)(M:k7 X d)(S:a8 X d f)(h:ek d L g A):ek f L g A:=λv e=>ay (h v e) λx a b=>aF x a<|aY.i R M S b
@[reducible]def FL(Γ:bT)(L:U V)(c:bl)(m:aQ->a3 aZ):Prop:=∀x i,Γ.b.lookup x=Y i->Γ.d.lookup x=Y .local->ek c L i (m x)
structure cv(Γ:bT)(T:dF)(L:U V)(c:bl):Prop where
 h:T.scope.kind=hy
 d:T.scope.names=Γ.d
 f:T.globals=eO
 g:T.builtins=rx
 j:∀l,c.a.h l->c.b l≠T.locals
 e:∃m,c.d.heap.Ns T.locals m/\FL Γ L c m
 b:∀x i,Γ.b.lookup x=Y i->(Γ.d.lookup x=Y d4\/Γ.d.lookup x=Y ez)->∃a v,T.cells.lookup x=Y a/\c.d.heap.IsCell a v/\ek c L i v
 inj:∀x y i,Γ.b.lookup x=Y i->Γ.b.lookup y=Y i->x=y
 n:∀x y a,T.cells.lookup x=Y a->T.cells.lookup y=Y a->x=y
theorem j8.a.k{h b:j2}(x:h.Ns d m)(c:∀o,h.get? d=Y o->b.get? d=Y o):b.Ns d m:=gi x λo e H z r=>h4 o e H (c o z) r
theorem cv.i(F:cv Γ T L p)(R:aV B p)(S:a8 ce p s):cv Γ T L s where
 h:=F.h
 d:=F.d
 f:=F.f
 g:=F.g
 inj:=F.inj
 n:=F.n
 j l A k:=by
  refine ay F.e λm t r=>aE (S.g l A) (λX=>ay X λC D E=>F.j C D<|bx E k) λy=>?_
  .refine gi t λr r r G r=>?_;rw[k,G]at y;exact aC y ar
 e:=ay F.e λm t P=>aF m (j8.a.k t λo k=>S.p _ _ k (λq=>q) F.j) λx u a w=>(P x u a w).i R (cn p) S
 b x u a w:=by refine bb ?_;intro N;exact dd (F.b x u a w) λW v H K M=>ay K λo z Q=>fv W v H (aF o (S.p _ _ z (λq=>q)<|R.n z<|v7 Q) Q)<|M.i R (cn p) S
inductive bd(B:bZ)(c:bl)(Q:V->av->Prop)(x:aZ):bB->Prop|mk(e:bl)(v:V)(R:aV B e)(S:a8 ce c e)(h:aY e v x)(q:Q v e.a):bd B c Q x e.d
inductive yC(B:bZ)(c:bl)(Q:V->av->Prop)(a:U aZ):bB->Prop|mk(e:bl)(l:U V)(R:aV B e)(S:a8 ce c e)(h:bm e l a)(q:Q (.g l) e.a):yC B c Q a e.d
abbrev bP:aZ->bB->Prop:=λp p=>bW
def a6(B:bZ)(Γ:bT)(R:O->a3 bg)(d:O)(a:a5)(e:cC):Prop:=∀(A:cR)(T:dF)(L:U V)(c:bl)(Q:V->av->Prop),da A d->cv Γ T L c->aV B c->bA (aO R d) a L Q c.a->bc (a7 B.b B.a) A (dU e T) (bd B c Q) bP c.d
def hU(B:bZ)(Γ:bT)(R:O->a3 bg)(d:O)(a:a5)(b:U cC):Prop:=∀(A:cR)(T:dF)(L:U V)(c:bl)(Q:V->av->Prop)(S:il),da A d->cv Γ T L c->aV B c->bA (aO R d) a L Q c.a->bc (a7 B.b B.a) A (spliced<|hN S<|g6 b T) (yC B c Q) bP c.d
theorem bd.i(S:a8 ce d f)(h:bd B f Q x X):bd B d Q x X:=h.casesOn λa v R p A b=>⟨a,v,R,S.i p,A,b⟩
theorem bd.a(R:aV B d)(h:aY d v x)(q:Q v d.a):bd B d Q x d.d:=⟨d,v,R,a8.j _ _,h,q⟩
theorem bd.b(R:aV B d)(g:cj d.d X)(h:aY (d.h X) v x)(q:Q v d.a):bd B d Q x X:=.mk (d.h X) v (R.h g) (a8.h _ g) h q
theorem gS{B:bZ}{m:jv α}{P:α->bB->Prop}(h:bc (a7 B.b B.a) A m P bP s):bc (a7 B.b B.a) A m P E s:=c3 h (λp p h=>h) λp p h=>be h
theorem jV(S:a8 ce a e)(h:bc (a7 B.b B.a) A m (bd B e Q) bP s):bc (a7 B.b B.a) A m (bd B a Q) bP s:=c3 h (λp p=>bd.i S) λp p h=>h
def G1(μ:cN->aU)(n:O)(a:aU):cN->aU|.e k=>if k=n then a else μ (.e k)|l=>μ l
def bl.u(c:bl)(X:bB)(a:aU)(x:b8):bl:=⟨G1 c.b c.a.d a,c.c,c.a.b x,X⟩
def b8.d:b8->Prop|.a _=>bW|_=>im
theorem l8{N:av}{x:b8}(M:x.d)(l:cN):(N.b x).g l=match l with|.e k=>if k=N.d then Y x else N.g (.e k)|l=>N.g l:=by
 induction l with
 |e k=>
  delta av.b av.g aw;dsimp only;by_cases h:k=N.d
  .refine J (a9 h)<|J (a9 h) ?_;induction x<;>first|rfl|exact be M
  .exact J (bf h)<|J (bf h) I
 |_=>rfl
theorem aV.u(R:aV B L)(G:cj L.d X)(D:x.d)(T:L.d.heap.get? N=au)(b':fG B (L.h X) N x):aV B (L.u X N x)/\a8 ce L (L.u X N x):=by
 haveI s:=R.h G;have M:c6 (L.h X)<|L.u X N x:=by refine⟨λp p p d=>d,λp p p p p p p d=>d,cO _,λp=>b4 _,λp=>I,λl p F i=>?_,λp h=>⟨h,I⟩⟩;induction l with|e k=>haveI C:k≠L.a.d:=bj F;refine bH i λy n=>?_;haveI n:(L.a.b x).g (.e k)=Y y:=n;rw[l8 D]at n;simp only[bf C]at n;exact⟨⟨y,n⟩,(J (bf C) I:(if k=L.a.d then N else L.b (.e k))=_)⟩|b _ _=>exact⟨i,I⟩|a _ _ _=>exact⟨i,I⟩|f _=>exact be F
 have v:∀l,(L.u X N x).a.h l->((L.u X N x).b l=N/\l=.e L.a.d)\/(L.a.h l/\(L.u X N x).b l=L.b l/\∀y,(L.u X N x).a.g l=Y y->L.a.g l=Y y):=λl i=>by
  refine bH i λy n=>?_;haveI t:(L.a.b x).g l=Y y:=n;rw[l8 D]at t;induction l with
  |e k=>
   by_cases C:k=L.a.d
   .left;exact J C ⟨(J (a9 I) I:(if L.a.d=L.a.d then N else _)=N),I⟩
   .right;simp only[bf C]at t;refine aP ⟨y,t⟩ (J (bf C) I:(if k=L.a.d then N else L.b (.e k))=_) λz E=>?_;haveI S:(L.a.b x).g (.e k)=Y z:=E;rw[l8 D]at S;simpa only[bf C]using S
  |b _ _=>right;exact aP ⟨y,t⟩ I λz E=>E
  |a _ _ _=>right;exact aP ⟨y,t⟩ I λz E=>E
  |f _=>right;exact aP ⟨y,t⟩ I λz E=>E
 haveI W:∀l,L.a.h l->L.b l≠N:=λl i q=>by refine ay (R.b i) λp d p=>?_;replace d:=T▸q▸d;exact aC d ar
 refine⟨⟨s.d,s.j,s.f,λl y d=>?_,λl i=>?_,λl H i c' d=>?_,s.s,λk C=>?_,s.m⟩,⟨λK o d p p=>G.p K o d,λK o d=>⟨o,G.p K o d⟩,λl i=>?_,cO _,λp=>b4 _,λp=>I,λl d F i=>M.m l d F i,λp h=>⟨h,I⟩⟩⟩
 .rcases v l ⟨y,d⟩with⟨r,w⟩|⟨A,m,Q⟩
  .subst w;haveI P:(L.a.b x).g (.e L.a.d)=Y y:=d;rw[l8 D]at P;simp only[hO]at P;exact az (bE P)<|J r<|b'.f M λp d=>d
  .exact J m<|(s.g l y<|Q y d).f M λp d=>d
 .refine aE (v l i) (λj=>aM j λr w=>?_) λj=>b6 j λA m Q=>J m<|R.r l A
  .refine J r ?_;cases q:B.c.get? N with|none=>rfl|some o=>haveI:=R.d _ _ q;replace this:=T▸this;exact aC this ar
 .refine aE (v l i) (λj=>aM j λr w=>?_) λj=>b6 j λA m p=>?_<;>refine aE (v H c') (λj=>aM j λd' e'=>?_) λj=>b6 j λc a' p=>?_
  .exact J w<|J e' I
  .rw[r,a']at d;exact aA d.symm<|W H c
  .rw[m,d']at d;exact aA d<|W l A
  .rw[m,a']at d;exact R.inj l H A c d
 .refine(?_:aw L.a.a L.a.d (Y x) k=au);delta aw;exact J (bf (by exact zv C))<|R.q k<|zw C
 .refine aE (v l i) (λj=>aM j λr w=>?_) λj=>b6 j λA m Q=>?_
  .right;exact J r T
  .left;exact aF l A m.symm
theorem bd.u(R:aV B d)(g:cj d.d X)(M:x.d)(T:d.d.heap.get? f=au)(s:fG B (d.h X) f x)(q:Q (.e d.a.d) (d.a.b x)):bd B d Q (aN f) X:=aM (R.u g M T s) λE S=>.mk (d.u X f x) _ E S (.e (b7 _) λp=>(J (a9 I) I:f=(if d.a.d=d.a.d then f else _))) q
instance:d0 bB:=⟨{}⟩
instance:d0 bl:=(rJ:d0 av).elim λa=>(rJ:d0 bB).elim λb=>⟨⟨dt,dt,a,b⟩⟩
instance:d0 fB:=⟨⟨dt,⟨dt,dt,dt,dt,dt,dt,dt,.refcount,.text,λp=>0,λp=>au,λp=>ax,λp p p=>an,λp p p=>an,an,λp=>ax,λp=>au,λp=>au,λp p p=>0,λp p=>au,λp=>au,λp=>dt,λp=>dt,λp=>0,λp=>ax⟩⟩⟩
instance:d0 bZ:=(rJ:d0 fB).elim λa=>⟨⟨dt,a,dt,dt,dt,dt,dt⟩⟩
instance:d0 bT:=⟨⟨[],[]⟩⟩
instance:d0 cR:=⟨⟨au,0,au,au,0⟩⟩
end
section
open Classical SeqAt
mutual
theorem H7(h:RcAt A s d g b)(e:d=g->b=an)(T:∀f t,d≠.float f t):EqAt A s d g b:=λX w E Q M=>by
 skip;refine eh<|rG (λG=>az (e<|gk G)<|aS<|ug<|bC M) λp=>?_
 .induction d<;>first|exact aS<|h X w E _<|kY M|exact aA I<|T _ _
set_option tactic.hygienic true in theorem aY.d{c:bl}{i:am}{x:aZ}(f:aY c (.a i) x):∃A,x=cS i A:=by cases f;exact⟨_,I⟩
set_option tactic.hygienic true in theorem aY.m{c:bl}{d:ba}{x:aZ}(f:aY c (.h d) x):x=jw d:=by cases f;rfl
set_option tactic.hygienic true in theorem aY.r{c:bl}{x:aZ}(d:aY c .z x):x=dL:=by cases d;rfl
set_option tactic.hygienic true in theorem aY.q{c:bl}{d:iW}{x:aZ}(f:aY c (.p d) x):∃A,x=fz (gG d) A:=by cases f;exact⟨_,I⟩
set_option tactic.hygienic true in theorem aY.n{c:bl}{l:U V}{x:aZ}(d:aY c (.g l) x):∃A T B,x=aN A/\c.d.heap.get? A=Y ⟨bq "tuple",au,c9 T B,#[]⟩/\bm c l (cx T):=by cases d;exact sI _ _ _<|aP I (‹_›)<|‹_›
set_option tactic.hygienic true in theorem aY.o{c:bl}{d:O}{x:aZ}(f:aY c (.b d) x):x=aN (c.c d)/\c.a.f d=an:=by cases f;exact⟨I,‹_›⟩
end
section
variable{c:bl}{v w:V}{x y:aZ}{P:aZ->Prop}{a:aZ->aZ->Prop}
mutual
@[elab_as_elim]theorem hr{f:am->Prop}(q:v.c f)(M:aY c v x)(k:∀i t,f i->P (cS i t)):P x:=by induction v using V.casesOn<;>first|exact be q|(exact bH M.d λt a=>J a<|k _ _ q)
@[elab_as_elim]theorem jO{f:am->am->Prop}(q:v.c λi=>w.c λj=>f i j)(M:aY c v x)(b:aY c w y)(k:∀i t j u,f i j->a (cS i t) (cS j u)):a x y:=hr q M λi t q=>hr q b λj u q=>k i t j u q
@[elab_as_elim]theorem oy{f:ba->Prop}(q:v.l f)(M:aY c v x)(k:∀b,f b->P (jw b)):P x:=by induction v using V.casesOn<;>first|exact be q|(exact J M.m<|k _ q)
@[elab_as_elim]theorem nx{l:U V}(M:aY c (.g l) x)(k:∀b X n,c.d.heap.get? b=Y ⟨bq "tuple",au,c9 X n,#[]⟩->bm c l (cx X)->P (aN b)):P x:=e5 M.n λb X n B A i=>J B<|k _ _ _ A i
@[elab_as_elim]theorem ws{f:U V->Prop}(q:v.i f)(M:aY c v x)(k:∀l b X n,f l->c.d.heap.get? b=Y ⟨bq "tuple",au,c9 X n,#[]⟩->bm c l (cx X)->P (aN b)):P x:=by induction v using V.casesOn<;>first|exact be q|exact nx M λp p p A i=>k _ _ _ _ q A i
@[elab_as_elim]theorem wu{f:U V->Prop}{A:Prop}(q:v.n f A)(M:aY c v x)(k:∀l b X n,f l->c.d.heap.get? b=Y ⟨bq "tuple",au,c9 X n,#[]⟩->bm c l (cx X)->P (aN b))(G:A->P x):P x:=by induction v using V.casesOn<;>first|exact G q|exact nx M λp p p d i=>k _ _ _ _ q d i
@[elab_as_elim]theorem M4{o:O}(M:aY c (.b o) x)(k:c.a.f o=an->P (aN<|c.c o)):P x:=aM M.o λT h=>J T<|k h
@[elab_as_elim]theorem Cs{o:O}(e:v=.b o)(M:aY c v x)(k:c.a.f o=an->P (aN<|c.c o)):P x:=by subst e;exact M4 M k
set_option tactic.hygienic true in@[elab_as_elim]theorem qH{k:O}(M:aY c (.e k) x)(f:∀b,k<c.a.d->(c.a.h (.e k)->b=c.b (.e k))->P (aN b)):P x:=by cases M with|e h d=>exact f _ h d
set_option tactic.hygienic true in@[elab_as_elim]theorem CQ{l:cN}{g:O}(M:aY c (.j l g) x)(f:∀b,nq 0 l->g<=c.a.e l->(g=c.a.e l->c.a.h l->b=c.b l)->P (aN b)):P x:=by cases M with|j h d u=>exact f _ h d u
@[elab_as_elim]theorem qk{r:U aZ}{P:U aZ->Prop}(h:bm c [] r)(k:P []):P r:=by cases h;exact k
@[elab_as_elim]theorem i6{l:U V}{r:U aZ}{P:U aZ->Prop}(h:bm c (v::l) r)(k:∀x r,aY c v x->bm c l r->P (x::r)):P r:=by cases h with|b h t=>exact k _ _ h t
def Cv(l:U V)(f:V->Prop):Prop:=match l with|[x]=>f x|_=>bW
def Cw(l:U V)(f:V->V->Prop):Prop:=match l with|[x,y]=>f x y|_=>bW
def Cx(l:U V)(f:V->V->V->Prop):Prop:=match l with|[x,y,z]=>f x y z|_=>bW
theorem M6{f:V->Prop}{P:U aZ->Prop}:∀{l:U V}{r:U aZ},Cv l f->bm c l r->(∀v x,aY c v x->f v->P [x])->P r|[_],_,q,h,k=>i6 h λp p A h=>qk h<|k _ _ A q
theorem M9{f:V->V->Prop}{P:U aZ->Prop}:∀{l:U V}{r:U aZ},Cw l f->bm c l r->(∀v w x y,aY c v x->aY c w y->f v w->P [x,y])->P r|[_,_],_,q,h,k=>i6 h λp p A h=>i6 h λp p i h=>qk h<|k _ _ _ _ A i q
theorem Na{f:V->V->V->Prop}{P:U aZ->Prop}:∀{l:U V}{r:U aZ},Cx l f->bm c l r->(∀u v w x y z,aY c u x->aY c v y->aY c w z->f u v w->P [x,y,z])->P r|[_,_,_],_,q,h,k=>i6 h λp p A h=>i6 h λp p i h=>i6 h λp p Q h=>qk h<|k _ _ _ _ _ _ A i Q q
theorem Nh{G:V->Prop}(q:v.i f)(k:∀l,f l->G (.g l)):G v:=by induction v using V.casesOn<;>first|exact be q|exact k _ q
end
end
mutual
theorem bF.b{o:a3 α}{k:α->Prop}{G:Prop}(h:bF o k)(f:∀d,o=Y d->k d->G):G:=ay h.a λd e h=>f d e h
theorem s5(h:gG d=gG b):d=b:=by
 rw[Tx,Tx]at h;haveI i:d.toList=b.toList:=by
  haveI:Function.Injective El:=λx y e=>by apply Char.ext;exact UInt32.toNat_inj.mp e
  exact(List.map_inj_right λx y e=>this e).mp (aW (λs:aQ=>cx s.cps) h:d.toList.map El=b.toList.map El)
 exact String.toList_inj.mp i
theorem Rj(B:s.heap.get? i=Y ⟨bq "tuple",au,c9 T n,#[]⟩)(C:s.heap.get? k=Y ⟨bq "tuple",au,c9 h t,#[]⟩)(D:A.units<nM)(G:bm r l (cx T))(H:bm r d (cx h))(K:∀(j:O)(m o:V)(p q:aZ),l[j]?=Y m->d[j]?=Y o->T[j]?=Y p->h[j]?=Y q->EqAt A.in1 s p q (a0<|m=o)):RcAt A s (aN i) (aN k) (a0<|l=d)/\RcNeAt A s (aN i) (aN k) (!a0 (l=d)):=by
 have w:aX T=Z l:=by rw[G.a];simp
 have W:aX h=Z d:=by rw[H.a];simp
 haveI E:((b2<|min (aX T) (aX h)).all (λj=>a0<|l[j]?=d[j]?)&&aX T==aX h)=a0 (l=d):=by
  rw[nB];simp only[iK,gl,ed,g8,mL];refine J w<|J W ?_;constructor
  .rintro⟨v,u⟩;apply qQ;intro j;by_cases z:j<Z l
   .exact v j<|(aq [1,1,0,1] I:ap 3 0 [.e .a .b,.a .f .b] (.e .a .f)) z<|iS<|u0 u
   .exact J (gX<|(aq [1,1] I:ap 2 0 [.f<|.e .a .b] (.g .b .a)) z)<|J (gX (by exact(aq [1,0,1,1] I:ap 3 0 [.a .a .b,.f<|.e .f .a] (.g .b .f)) u z)) I
  .rintro rfl;exact⟨λL L=>I,I⟩
 haveI F:∀j(v:j<aX T)(u:j<aX h),EqAt A.in1 s T[j] h[j] (a0<|l[j]?=d[j]?):=λj v u=>J (cl (by exact n2 w v))<|J (cl (by exact n2 W u))<|J (by rw[j6];simp:decide (some l[j]=some d[j])=decide (l[j]=d[j]))<|K j _ _ _ _ (cl (by exact n2 w v)) (cl (by exact n2 W u)) (kL v)<|kL u;constructor
 .haveI:=RcAt.tuples ⟨_,B,I,_,I⟩ ⟨_,C,I,_,I⟩ D F;rw[E]at this;exact this
 .haveI:=RcNeAt.tuples ⟨_,B,I,_,I⟩ ⟨_,C,I,_,I⟩ D F;rw[E]at this;exact this
inductive hB:V->V->Prop|a(i j:am):hB (.a i)<|.a j|h(i j:ba):hB (.h i)<|.h j
theorem hB.l(k:hB b d)(M:aY e b f)(g:aY e d f):b=d:=by induction k with|a i j=>exact bD M.d λp m=>bD g.d λp n=>by cases bx m.symm n;rfl|h i j=>cases bx M.m.symm g.m;rfl
theorem iu.b(h:iu g)(c:iu i):∀d∈g,∀f∈i,hB d f:=λd M f j=>bD (h d M) λp e=>bD (c f j) λp k=>J e<|J k<|.a _ _
theorem ge.b(c:ge g)(j:ge i):∀d∈g,∀f∈i,hB d f:=λd M f k=>bD (c d M) λp e=>bD (j f k) λp l=>J e<|J l<|.h _ _
theorem bm.l(h:∀t∈q,∀z∈s,hB t z)(f:bm A q r)(g:bm A s r):q=s:=by apply qQ;intro j;have v:=bx f.a g.a.symm;refine aE (f6 j (Z q)) (λe=>bb ?_) λe=>(gX e).trans (gX<|az v e).symm;intro p;refine ay (f.g<|cl e) λL i k=>ay (g.g<|cl<|az v e) λN Q m=>?_;obtain rfl:=bE (bx i.symm Q);exact(cl e).trans<|(aW Y<|(h _ (kN _) _<|kN _).l k m).trans (cl<|az v e).symm
theorem aY.l(u:gP A B)(M:aY C A D)(f:aY C B D):A=B:=by
 haveI t:∀{o q},(∀A∈o,∀B∈q,hB A B)->aY C (.g o) D->aY C (.g q) D->V.g o=.g q:=λw m n=>e5 m.n λd d d E F G=>e5 n.n λd d d H K L=>by cases bx E.symm H;cases bx F.symm K;exact az (G.l w L) I
 induction u with|a i s=>exact(hB.a i s).l M f|h i s=>exact(hB.h i s).l M f|p o q=>refine bD M.q λd N=>bD f.q λd P=>?_;injection bx N.symm P with r _;exact az (s5 r) I|z=>rfl|j m n=>exact t (m.b n) M f|b m n=>exact t (m.b n) M f
structure pu(A:cR)(s:bB)(x y:V)(b l:aZ):Prop where
 a:RcAt A s b l<|a0<|x=y
 h:RcNeAt A s b l<|a0<|x≠y
 g:EqAt A s b l<|a0<|x=y
theorem pu.l(e:b=an↔d=i)(h:RcAt A s j k b)(c:RcNeAt A s j k (!b))(u:j=k->d=i)(T:∀f t,j≠.float f t):pu A s d i j k:=by
 haveI a:b=a0 (d=i):=by rw[nB,e,g8]
 exact⟨a▸h,(J a<|J FC I:(!b)=a0 (d≠i))▸c,H7 (a▸h) (λq=>fC<|u q) T⟩
theorem oE(C:hB b d)(M:aY c b e)(g:aY c d f):pu A s b d e f:=by haveI E:e=f->b=d:=λq=>C.l M<|J q g;induction C with|a i j=>obtain⟨t,rfl⟩:=M.d;obtain⟨u,rfl⟩:=g.d;exact .l (by simp[V.a.injEq]) (RcAt.int_int i t j u) (RcNeAt.int_int i t j u) E ar|h i j=>obtain rfl:=M.m;obtain rfl:=g.m;exact .l (by simp[V.h.injEq]) (RcAt.bool_bool i j) (RcNeAt.bool_bool i j) E ar
theorem wE(D:gP d e)(L:A.units+2<nM)(M:aY m d f)(o:aY m e k):pu A m.d d e f k:=by
 haveI E:f=k->d=e:=λq=>aY.l D M<|J q o;have F:∀{s v},(∀d∈s,∀e∈v,hB d e)->aY m (.g s) f->aY m (.g v) k->(f=k->V.g s=.g v)->pu A m.d (.g s) (.g v) f k:=λN r w=>nx r λb' c' d' P G=>nx w λq e' f' Q H u=>by
  obtain⟨R,S⟩:=Rj P Q (uZ L) G H λB d e f k X K T W=>ay (G.g X) λc n x=>ay (H.g K) λc y a'=>by refine bb ?_;intro g';cases bx n.symm (hI.trans T);cases bx y.symm (hI.trans W);exact(oE (N _ (dZ X) _<|dZ K) x a').g
  exact .l (by simp[V.g.injEq]) R S u ar
 induction D with|a i B=>exact oE (.a i B) M o|h i B=>exact oE (.h i B) M o|p s v=>refine bH M.q λt C=>?_;subst C;refine bH o.q λu C=>?_;subst C;exact .l (by rw[mL,V.p.injEq];exact⟨s5,λr=>az r I⟩) (RcAt.str_str _ t _ u) (RcNeAt.str_str _ t _ u) E ar|z=>obtain rfl:=M.r;obtain rfl:=o.r;exact .l (by simp) RcAt.none_none RcNeAt.none_none E ar|j r w=>exact F (r.b w) M o E|b r w=>exact F (r.b w) M o E
end
section
variable{B:bZ}{a:bT}{z:O->a3 bg}{d:O}
mutual
theorem a6.e(h:a6 B a z d i j){K:V->av->Prop}(b:da A d)(F:cv a T L c)(R:aV B c)(t:bA (aO z d) i L K c.a)(k:∀f v g,aV B f->cv a T L f->a8 ce c f->aY f v g->K v f.a->P g f.d):bc (a7 B.b B.a) A (dU j T) P E c.d:=c3 (h A T L c K b F R t) (λg X p=>p.casesOn λf v l S m C=>k f v g l (F.i R S) S m C) λn n h=>be h
theorem O7:a6 B a z d .z<|gE qX k S:=λA T L c Q b F R h=>Fo<|bd.a R .z h
theorem OJ:a6 B a z d (.h e)<|gE (gZ e) k S:=λA T L c Q g F R f=>yf<|bd.a R (.h e) f
theorem OV:a6 B a z d (.a i)<|gE (.int i) k S:=λA T L c Q b F R h=>wpAny_Constant_int<|bd.b R (cj.a _ _) (.a i _) h
theorem Pk:a6 B a z d (.p e)<|gE (.str<|gG e) k S:=λA T L c Q b F R h=>wpAny_Constant_str<|bd.b R (cj.a _ _) (.p e _) h
set_option tactic.hygienic true in theorem sU{L:U V}{i:O}{v:V}(h:c5 L i=Y v):L[i]?=Y v/\v≠.d:=by delta c5 at h;revert h;generalize L[i]?=o;intro h;induction o using tQ with|none=>exact aC h ar|some x=>induction x using V.casesOn<;>first|exact⟨h,bE h▸ar⟩|exact aC h ar
theorem C4(b:a.b.lookup f=Y i)(C:a.d.lookup f=Y .local)(T:(f==("__debug__"))=ax):a6 B a z d (.c i)<|bR f S:=λA g L n Q o F R h=>by refine bb ?_;intro p;exact ay (bF.a h) λv e h=>ay F.e λm j P=>ay (P f i b C v e) λy k l=>Fp (Fv F.h (J F.d C:g.scope.names.lookup f=_) j k<|bd.a R l h) T
theorem O1(b:a.b.lookup f=Y i)(C:a.d.lookup f=Y d4)(T:(f==("__debug__"))=ax):a6 B a z d (.c i)<|bR f S:=λA g L m Q n F R h=>by refine bb ?_;intro p;refine ay (bF.a h) λv e h=>dd (F.b f i b<|aK C) λo q s j P=>ay (P v e) λy k l=>?_;subst k;exact Fp (wpAny_loadName_cell F.h (J F.d C:g.scope.names.lookup f=_) s j<|bd.a R l h) T
theorem OR(b:B.e)(g:mc n=.a i)(C:a.d.lookup f=Y gF)(e:fA B.d eO f=Y (Y<|cS i t))(T:(f==("__debug__"))=ax):a6 B a z d (.q n)<|bR f S:=λA j L c Q k F R h=>by haveI h:Q (mc n) c.a:=h;rw[g]at h;exact xV F.h (J F.d C:j.scope.names.lookup f=_) (EX (J F.f<|b.r.keeps R.d) (mg_of b.a b.r e)<|bd.a R (.a i t) h) T
theorem OS(b:B.e)(j:mc n=.g l)(C:a.d.lookup f=Y gF)(e:fA B.d eO f=Y (Y<|aN i))(s:B.d.lookup i=Y ⟨bq "tuple",au,c9 T m,#[]⟩)(k:∀c,bm c l (cx T))(o:(f==("__debug__"))=ax):a6 B a z d (.q n)<|bR f S:=λA p L c Q r F R h=>by haveI h:Q (mc n) c.a:=h;rw[j]at h;exact xV F.h (J F.d C:p.scope.names.lookup f=_) (EX (J F.f<|b.r.keeps R.d) (mg_of b.a b.r e)<|bd.a R (.g (R.d _ _<|b.a _ _ s)<|k c) h) o
theorem nk(b:B.e)(F:cv a T L c)(R:aV B c)(C:a.d.lookup f=Y gF)(e:fA B.d eO f=Y au)(d:pm f=Y v)(g:f≠"__name__")(h:P v c.d)(i:(f==("__debug__"))=ax):bc (a7 B.b B.a) A (dU (bR f S) T) P bP c.d:=xV F.h (J F.d C:T.scope.names.lookup f=_) (Tk (J F.f<|b.r.keeps R.d) (mg_none_of b.a b.r e) (J F.g<|b.b.keeps R.d) ((b.d f g).trans d) h) i
theorem wa(b:B.e)(F:cv a T L c)(R:aV B c)(C:a.d.lookup f=Y gF)(e:fA B.d eO f=Y (Y v))(h:P v c.d)(d:(f==("__debug__"))=ax):bc (a7 B.b B.a) A (dU (bR f S) T) P bP c.d:=xV F.h (J F.d C:T.scope.names.lookup f=_) (EX (J F.f<|b.r.keeps R.d) (mg_of b.a b.r e) h) d
theorem O5(s:a6 B a z d f e):a6 B a z d (.v f)<|q2 .USub e g:=λA T L c Q b F R h=>TL<|s.e b F R h λk l x E m S j C=>hr C j λi t C=>P.neg_int<|bd.i S<|bd.b E (cj.a _ _) (.a _ _) C
theorem Ko(b:ao f<2^60):Tg f<=64:=by
 delta Tg;split
 .exact(aq [1] I:ap 0 0 [] (.g .i<|.c 64))
 .rename_i q;haveI:=(Nat.log2_lt (by simpa using q)).mpr b;exact(aq [1,1] I:ap 1 0 [.e .a<|.c 60] (.g (.h .a)<|.c 64)) this
end
section
variable{b:Type}{x:b}
mutual
theorem mu(h:jU o k=Y x):∃l,o=Y (.e l)/\k l=Y x:=by induction o with|none=>exact aC h ar|some y=>induction y with|e l=>exact aF l I h|_=>exact aC h ar
theorem Q6(h:w9 o k=Y x):∃l,o=Y (.b l)/\k l=Y x:=by induction o with|none=>exact aC h ar|some y=>induction y with|b l=>exact aF l I h|_=>exact aC h ar
theorem Q7(h:iG o k G=Y x):(∃l,o=Y (.e l)/\k l=Y x)\/∃l,o=Y (.b l)/\G l=Y x:=by induction o with|none=>exact aC h ar|some y=>induction y with|e l=>exact aK<|aF l I h|b l=>exact a1<|aF l I h|_=>exact aC h ar
theorem wq{f:cd}(h:f.b k=Y x):∃c,f=.a c/\k c=Y x:=by induction f with|a c=>exact aF c I h|_=>exact aC h ar
theorem wo{f:cd}(h:f.f k G=Y x):(∃l,f=.c l/\k l=Y x)\/∃e,f=.a e/\G e=Y x:=by induction f with|c l=>exact aK<|aF l I h|a e=>exact a1<|aF e I h|_=>exact aC h ar
theorem wp{v:V}(h:v.o k=Y x):∃i,v=.e i/\k i=Y x:=by induction v using V.casesOn with|e i=>exact aF i I h|_=>exact aC h ar
theorem fi{p:Prop}[jW p]{o:a3 b}(h:(if p then o else au)=Y x):p/\o=Y x:=by
 by_cases a:p
 .exact⟨a,(a9 a).symm.trans h⟩
 .exact aC ((bf a).symm.trans h) ar
end
end
mutual
theorem i7{N:av}(h:N.a k=Y (.e l)):N.g (.e k)=Y (.e l):=aW (λo=>iG o (λl=>Y<|b8.e l) λl=>Y<|b8.b l) h
theorem AR{N:av}(h:N.a k=Y (.b l)):N.g (.e k)=Y (.b l):=aW (λo=>iG o (λl=>Y<|b8.e l) λl=>Y<|b8.b l) h
theorem HS{N:av}(h:N.c o g=.c l):N.g (.b o g)=Y (.e l):=aW (λf:cd=>(f.d λi=>V.j (.a o g i)<|N.e<|.a o g i).map b8.e) h
theorem pV{N:av}(h:N.c o c=.a g):N.g (.b o c)=Y (.e<|(b2 (Z g)).map λi=>V.j (.a o c i)<|N.e<|.a o c i):=aW (λf:cd=>(f.d λi=>V.j (.a o c i)<|N.e<|.a o c i).map b8.e) h
theorem pW{N:av}(h:N.c o g=.a c):N.g (.a o g i)=(c[i]?).map .e:=aW (λf:cd=>f.b λc=>(c[i]?).map b8.e) h
theorem aY.s(d:aY c (.e w) (aN y)):w<c.a.d/\(c.a.h (.e w)->y=c.b (.e w)):=by cases d with|e A i=>exact⟨A,i⟩
theorem aY.t(d:aY c (.j w y) (aN A)):y=c.a.e w->c.a.h w->A=c.b w:=by cases d with|j _ _ d=>exact d
theorem BS{N:av}(h:N.i (.j M g)=Y l):g=N.e M/\N.g M=Y (.e l):=by induction M with|b o c=>exact(fi h).imp id λh=>aW (λo=>o.map b8.e) h|a o c i=>exact(fi h).imp id λh=>bD (wq h) λx h=>(pW h.1).trans<|aW (λo=>o.map b8.e) h.2|_=>exact aC h ar
theorem Kq(h:iU D e):bm c (e.map V.a) D:=by induction h with|nil=>exact .d|cons n t _ f=>exact .b (.a n t) f
@[reducible]def FO(c:bl)(a:aU)(l:U V)(v:V):Prop:=∀k,v=.e k->c.a.h (.e k)/\c.b (.e k)=a/\c.a.g (.e k)=Y (.e l)
@[reducible]def FN(c:bl)(a:aU)(l:U (am×V))(v:V):Prop:=∃k,v=.e k/\c.a.g (.e k)=Y (.b l)/\c.b (.e k)=a/\(a==ue)=ax
theorem aV.e(R:aV B N)(m:aY N Q S)(h:N.a.i Q=Y P):∃L T M,S=aN L/\N.d.heap.get? L=Y ⟨bq "list",au,c9 T M,#[]⟩/\bm N P (cx T)/\FO N L P Q:=by
 induction Q using V.casesOn with
 |e r=>exact ay (mu h) λs A i=>az (bE i)<|have b:=i7 A;qH m λL A i=>cF (R.g _ _ b) λX M d f=>vV _ X M (aW aN<|i ⟨_,b⟩) d f (λG p=>by injection p with p;subst p;exact⟨⟨_,b⟩,I,b⟩)
 |j t g=>exact aM (BS h) λq b=>CQ m λL u A i=>cF (R.g _ _ b) λX M d f=>vV _ X M (aW aN<|i q ⟨_,b⟩) d f ar
 |k L=>cases C:N.a.m L with|none=>exact aC ((aW (λo=>o.map λP=>P.map V.a) C).symm.trans h) ar|some K=>refine bb ?_;intro w;obtain rfl:=bE ((aW (λo=>o.map λP=>P.map V.a) C).symm.trans h);refine cF (R.m L K C) λX M d f=>?_;cases m;exact vV _ X M I (R.d _ _ d) (Kq f) ar
 |_=>exact aC h ar
@[elab_as_elim]theorem nh{c:bl}(R:aV B c){v:V}{x:aZ}{l:U V}{P:aZ->Prop}(b:aY c v x)(h:c.a.i v=Y l)(k:∀f X n,c.d.heap.get? f=Y ⟨bq "list",au,c9 X n,#[]⟩->bm c l (cx X)->P (aN f)):P x:=hw (R.e b h) λf X n e A i p=>J e<|k f X n A i
theorem aV.v(R:aV B o)(d:aY o N Q)(h:o.a.r N=Y P):∃L M,Q=aN L/\o.d.heap.DictOf (ga B.b B.a) L M/\fs o P M/\FN o L P N:=by induction N using V.casesOn with|e k=>exact ay (Q6 h) λg A i=>az (bE i)<|haveI b:=AR A;qH d λL A i=>ch (R.g _ _ b) λM f n p=>J (i ⟨_,b⟩)<|h3 _ M I f n<|dQ k I b I p|_=>exact aC h ar
end
end
mutual
theorem bm.h{c:bl}{l:U V}{r:U aZ}(a:bm c l r){y}(f:y∈r):∃q,q∈l/\aY c q y:=a.j (λa=>aC a ar) (λp p p p M p g f=>aE (cu.mp f) (λe=>aF _ (.head _)<|J e M) λf=>(g f).imp λq a=>⟨.tail _ a.1,a.2⟩) f
theorem bm.n(h:bm s t r)(E:q∈t):∃y,y∈r/\aY s q y:=h.j (λh=>aC h ar) (λp p p p M p f a=>aE (cu.mp a) (λe=>aF _ (.head _)<|J e M) λa=>(f a).imp λq h=>⟨.tail _ h.1,h.2⟩) E
def ms(c:bl)(x:V)(l:U V)(y:aZ):ba:=a0<|x∈l/\aY c x y
theorem tm{T:cQ aZ}(h:bm c l (cx T)):T.any (ms c x l)=a0 (x∈l):=by
 rw[nB,Array.any_eq_true',g8];constructor
 .rintro⟨y,a,A⟩;exact(fa A).1
 .exactλb=>ay (h.n b) λy a P=>aF y (by simpa using a)<|fC ⟨b,P⟩
theorem tn{T:cQ aZ}(j:A.units+2<nM)(h:bm c l (cx T))(M:aY c x f)(d:∀b∈l,gP b x):∀y,y∈T->EqAt A c.d y f (ms c x l y):=λy k=>by
 refine ay (h.h (by simpa using k)) λb a i=>?_;have e:ms c x l y=a0 (b=x):=by
  delta ms;rw[j6];constructor
  .rintro⟨m,P⟩;exact aY.l (d b a) i P
  .rintro rfl;exact⟨a,i⟩
 exact J e (wE (d b a) j i M).g
theorem fs.g{c:bl}{d n}(h:fs c d n):n.map (·.1)=d.map (·.1):=by induction h with|d=>rfl|b _ _ a=>exact aW (_::·) a
theorem D7{n:U (am×aZ)}{k:am}:(valueAt n k).isSome=a0 (k∈n.map (·.1)):=by delta valueAt;rw[nB];simp[List.find?_isSome]
end
section
variable{B:bZ}{a:bT}{z:O->a3 bg}{d:O}
mutual
theorem da.e(h:da A d):A.units+2<nM:=(aq [1,1,0,1] I:ap 3 0 [.e (.e .a<|.m 60 .b)<|.c 9000,.a .f<|.c 9900] (.e (.e .a<|.c 2) .f)) h.c (I:nM=9900)
theorem OI(s:a6 B a z d f g)(r:a6 B a z d b i)(t:∀{A:cR}{c:bl}{x y:V}{e l:aZ}{Q:V->av->Prop},da A d->aV B c->aY c x e->aY c y l->ke j x y Q c.a->bc (a7 B.b B.a) A (nK o e l) (bd B c Q) bP c.d):a6 B a z d (.m j f b)<|.BinOp g o i S:=λA T L c Q k F R h=>wpAny_BinOp<|s.e k F R h λW x e G u v M w=>r.e k u G w λH y l E K q C D=>c3 (t k E (M.i G (cn _) q) C D) (λn n p=>bd.i v<|bd.i q p) λn n h=>h
theorem Np(f:da A d)(R:aV B c)(M:aY c x b)(e:aY c y l)(h:ke dK x y Q c.a):bc (a7 B.b B.a) A (nK .Sub b l) (bd B c Q) bP c.d:=jO h M e λi t j u h=>Uh<|bd.b R (cj.a _ _) (.a _ _) h
theorem Nn(f:da A d)(R:aV B c)(M:aY c x b)(e:aY c y l)(h:ke lN x y Q c.a):bc (a7 B.b B.a) A (nK .Mult b l) (bd B c Q) bP c.d:=jO h M e λi t j u h=>Ug (bd.b R (cj.a _ _) (.a _ _) h.2)<|IntMulOk.of_left<|Ko h.1
theorem Nk(n:da A d)(R:aV B f)(M:aY f x k)(m:aY f y l)(h:ke g4 x y Q f.a):bc (a7 B.b B.a) A (nK .FloorDiv k l) (bd B f Q) bP f.d:=jO h M m λi t j u h=>Ua (zG h.1.1) (bd.b R (cj.a _ _) (.a _ _)<|J (Int.fdiv_eq_ediv_of_nonneg i<|mU h.1.1) h.2)<|aK<|Tf<|(aq [1,1,1] I:ap 1 1 [.b .a<|.c 1073741824,.c .g .a] (.e .a<|.c 1073741824)) h.1.2<|gj<|mU h.1.1
theorem Nm(f:da A d)(R:aV B c)(M:aY c x b)(e:aY c y l)(h:ke hL x y Q c.a):bc (a7 B.b B.a) A (nK .Mod b l) (bd B c Q) bP c.d:=jO h M e λi t j u h=>Uf (zG h.1)<|bd.b R (cj.a _ _) (.a _ _)<|J (Int.fmod_eq_emod_of_nonneg i<|mU h.1) h.2
theorem aV.k{c:bl}:c.d.heap.get? (aX c.d.heap.objs)=au:=by cases q:c.d.heap.get? (aX c.d.heap.objs)with|none=>rfl|some o=>exact aA (d3 q)<|f5 _
theorem bd.e{c:bl}{Q:V->av->Prop}{X:bB}{d:cQ aZ}{l:U V}{n:O}(R:aV B c)(A:X={c.d with heap:=co c.d.heap {cls:=bq "list",data:=c9 d n},toks:=cA X})(f:bm c l (cx d))(q:Q (.e c.a.d) (c.a.b<|.e l)):bd B c Q (aN (aX c.d.heap.objs)) X:=haveI g:cj c.d X:=J A ⟨λb o h=>dJ _ h,I,I⟩;bd.u (x:=.e l) R g bk aV.k (dr d n (J A<|d2 _ I)<|f.f<|(a8.h ce g).a R<|cn c) q
theorem Ch(h:bm c l r)(e:r=[]):l=[]:=iN.mp<|bx h.a<|J e I
theorem GH(R:aV B c)(d:c.d.heap.get? p=Y ⟨bq "tuple",au,c9 X n,#[]⟩)(x:bm c i (cx X))(M:c.d.heap.get? q=Y ⟨bq "tuple",au,c9 e v,#[]⟩)(s:bm c b (cx e))(r:Z i+Z b<=bi)(h:Q (.g<|i++b) c.a):bc (a7 B.b B.a) A (nK .Add (aN p)<|aN q) (bd B c Q) bP c.d:=by
 refine bb ?_;intro l;by_cases j:X.isEmpty=an
 .refine bb ?_;intro l;obtain rfl:=Ch x (by simpa using j);exact Fh (aF _ d I) (aF _ M I) Fk Fm E1 E0 (EZ _ _) (tuple_addW0 p q X e n v _ _ _ _ j)<|aP d M<|bd.a R (.g M s) h
 .by_cases k:e.isEmpty=an
  .obtain rfl:=Ch s (by simpa using k);exact Fh (aF _ d I) (aF _ M I) Fk Fm E1 E0 (EZ _ _) (tuple_addW1 p q X e n v _ _ _ _ j k)<|aP d M<|bd.a R (.g d x)<|az (dI i) h
  .exact Fh (aF _ d I) (aF _ M I) Fk Fm E1 E0 (EZ _ _) (tuple_addW2 p q X e n v _ _ _ _ j k<|zH r x.a s.a (I:lP=bi))<|aP d M<|bd.b R (cj.o c.d {cls:=bq "tuple",data:=c9<|X++e}) (.g (d2 _ I)<|J Ei<|(x.o s).f<|(a8.h ce<|cj.o c.d {cls:=bq "tuple",data:=c9<|X++e}).a R<|cn c) h
theorem Nj(K:da A d)(R:aV B c)(M:aY c x f)(r:aY c y l)(h:ke cY x y Q c.a):bc (a7 B.b B.a) A (nK .Add f l) (bd B c Q) bP c.d:=by haveI P:bF (c.a.i x) (λm=>bF (c.a.i y) λb=>Z m+Z b<=bi/\Q (.e c.a.d) (c.a.b<|.e<|m++b))->bc (a7 B.b B.a) A (nK .Add f l) (bd B c Q) bP c.d:=λh=>h.b λm D h=>h.b λb E h=>hw (R.e M D) λp X n v w o z=>hw (R.e r E) λq F G H C s z=>v.symm▸H.symm▸(PySem.P.add_list w C (bd.e R I (J Ei<|o.o s) h.2)<|zH h.1 o.a s.a (I:lP=bi));revert P;induction x using V.casesOn with|a i=>exactλz=>bD M.d λt v=>J v<|hr h r λj u h=>T9<|bd.b R (cj.a _ _) (.a _ _) h|g m=>exactλz=>nx M λp X n w o=>ws h r λb q F G h C s=>GH R w o C s h.1 h.2|_=>exactλk=>k h
def fx:o9->CmpOp|cB=>.Eq|dj=>.NotEq|g0=>.Lt|pa=>.LtE|d1=>.Gt|ij=>.GtE|fp=>.In|mC=>.NotIn
inductive mP(B:bZ)(b:bl)(f:V):aZ->U V->Prop|c{e:aU}{X:cQ aZ}{n:O}{l:U V}(h:b.d.heap.get? e=Y ⟨bq "list",au,c9 X n,#[]⟩)(x:bm b l (cx X)):mP B b f (aN e) l|g{e:aU}{X:cQ aZ}{n:O}{l:U V}(h:b.d.heap.get? e=Y ⟨bq "tuple",au,c9 X n,#[]⟩)(x:bm b l (cx X)):mP B b f (aN e) l|v{e:aU}{d:U (am×V)}{i:U (am×aZ)}(h:b.d.heap.DictOf (ga B.b B.a) e i)(x:fs b d i)(T:(e==ue)=ax)(q:b.a.r f=Y d):mP B b f (aN e)<|d.map λp=>.a p.1
theorem aV.D(R:aV B o)(P:aY o L x)(h:o.a.u L=Y M):mP B o L x M:=by
 haveI b:(match o.a.i L with|Y M=>Y M|au=>(o.a.r L).map λd=>d.map λp=>V.a p.1)=Y M->mP B o L x M:=λh=>by cases e:o.a.i L with|some m=>replace h:=e▸h;exact az (bE h)<|hw (R.e P e) λa X n e A i f=>J e<|.c A i|none=>replace h:=e▸h;cases T:o.a.r L with|none=>rw[T]at h;exact aC h ar|some q=>replace h:=T▸h;refine az (bE h)<|bb ?_;intro r;obtain⟨a,s,rfl,A,i,k,t,u,w,j⟩:=R.v P T;exact .v A i j T
 revert b;induction L using V.casesOn with|g a=>exact az (bE h) λf=>nx P λa X n A i=>.g A i|_=>exactλk=>k h
theorem Cc{i:am}{d:U (am×V)}:a0 (V.a i∈d.map λp=>V.a p.1)=a0 (i∈d.map (·.1)):=by rw[j6];simp[V.a.injEq]
theorem Nl(k:A.in1.units+2<nM)(R:aV B b)(M:aY b x e)(d:mf b.a y l x)(z:mP B b y f l)(j:Q (.h<|a0<|x∈l) b.a):bc (a7 B.b B.a) A (t6 .In e f) (bd B b Q) bP b.d:=by induction z with|c s a=>exact in_listAt (ms b x _) (d8 _ s I _ I) (tn k a M d.1) (by rw[tm a];exact bd.a R (.h _) j)|g s a=>exact in_tupleAt (ms b x _) (d8 _ s I _ I) (tn k a M d.1) (by rw[tm a];exact bd.a R (.h _) j)|v s a T q=>refine bH (d.2<|J q I) λi m=>?_;subst m;obtain⟨t,rfl⟩:=M.d;exact wpAny_in_of (by simp[ga,ph]) T s.mapOf<|J D7<|J a.g<|az Cc<|bd.b R (cj.a _ _) (.h _) j
theorem No(k:A.in1.units+2<nM)(R:aV B b)(M:aY b x e)(d:mf b.a y l x)(z:mP B b y f l)(j:Q (.h<|!a0 (x∈l)) b.a):bc (a7 B.b B.a) A (t6 .NotIn e f) (bd B b Q) bP b.d:=by induction z with|c s a=>exact notIn_listAt (ms b x _) (d8 _ s I _ I) (tn k a M d.1) (by rw[tm a];exact bd.a R (.h _) j)|g s a=>exact notIn_tupleAt (ms b x _) (d8 _ s I _ I) (tn k a M d.1) (by rw[tm a];exact bd.a R (.h _) j)|v s a T q=>refine bH (d.2<|J q I) λi m=>?_;subst m;obtain⟨t,rfl⟩:=M.d;exact wpAny_notIn_of (by simp[ga,ph]) T s.mapOf<|D7.symm▸a.g.symm▸Cc▸(bd.b R (cj.a _ _) (.h _) j)
theorem wt(v:B.e)(q:da A d)(R:aV B g)(M:aY g x k)(p:aY g y n)(o:iz F x y Q g.a):bc (a7 B.b B.a) A (t6 (fx F) k n) (bd B g Q) bP g.d:=by haveI s:=(aq [1,1,0,1] I:ap 3 0 [.e (.e .a<|.m 60 .b)<|.c 9000,.a .f<|.c 9900] (.e (.e (.h .a)<|.c 2) .f)) q.c (I:nM=9900);induction F with|up=>exact(wE o.1 q.e M p).a _ _ _ _<|bd.a R (.h _) o.2|down=>exact(wE o.1 q.e M p).h _ _ _ _<|bd.a R (.h _) o.2|halfEven=>exact bF.b o λl r o=>Nl s R M o.1 (R.D p r) o.2|zeroFiveUp=>exact bF.b o λl r o=>No s R M o.1 (R.D p r)<|az FC o.2|ceiling=>exact jO o M p λi t j u o=>Tc<|bd.a R (.h _) o|floor=>exact jO o M p λi t j u o=>Ud<|bd.a R (.h _) o|halfUp=>exact jO o M p λi t j u o=>Uc<|bd.a R (.h _) o|halfDown=>exact jO o M p λi t j u o=>Ub<|bd.a R (.h _) o
end
end
section
variable{B:bZ}{a:bT}{z:O->a3 bg}{d:O}
mutual
theorem OL(m:B.e)(s:a6 B a z d g i)(n:a6 B a z d b e)(T:jx (fx f) e=ax):a6 B a z d (.l f g b)<|hK i [fx f] [e] S:=λA u L c Q j F R h=>ye (s.e j F R h λW x v G o p M q=>n.e j o G q λw y C E D k r t=>jV (p.i k)<|wt m j E (M.i G (cn _) k) r t) T
theorem HD{N:av}(a:iz F x y Q N):iz F x y (λv N=>v.l λb=>Q (.h b) N) N:=by induction F<;>exact a
theorem s9(i:B.e)(j:da A d)(R:aV B c)(M:aY c x f)(m:aY c y l)(a:iz F x y Q c.a)(k:∀e b,aV B e->a8 ce c e->Q (.h b) e.a->P (jw b) e.d):bc (a7 B.b B.a) A (t6 (fx F) f l) P bP c.d:=c3 (wt i j R M m<|HD a) (λg g p=>p.casesOn λe v E n o q=>oy q o λb q=>k e b E n q) λg g a=>a
theorem OM(p:B.e)(w:a6 B a z d f g)(C:a6 B a z d b k)(D:a6 B a z d e M)(T:jx (fx j) M=ax):a6 B a z d (.R l j f b e)<|hK g [fx l,fx j] [k,M] S:=λQ a' b' c' d' m F H K=>Compare_chain (w.e m F H K λe' f' g' G N q P W=>chain_link<|C.e m N G W λh' i' j' E X n s c=>s9 p m E (P.i G (cn _) n) s c λt x o r u=>kY (by
 induction x
 .exact .mk t _ o (q.i<|n.i r) (.h _) u
 .exact chain_last<|D.e m (X.i E r) o u λk' l' m' y n' v A L=>jV ((q.i<|n.i r).i v)<|wt p m y ((s.i E (cn _) r).i o (cn _) v) A L)) T
theorem Cm(M:aY c x b):(b==dL)=a0 (x=.z):=by cases M<;>simp
theorem OX(s:a6 B a z d b e):a6 B a z d (.K b)<|hK e [.Is] [gE qX k p] S:=λA T L c Q f F R g=>ye<|s.e f F R g λW x j G y n M i=>Fo<|is_none_gen<|bd.i n<|J (Cm M)<|bd.a G (.h _) i
theorem O9(s:a6 B a z d b e):a6 B a z d (.X b)<|hK e [.IsNot] [gE qX k p] S:=λA T L c Q f F R g=>ye (s.e f F R g λW x j G y n M i=>Fo (isnot_none_gen (bd.i n ((J ((aW (!·)<|Cm M).trans FC.symm)<|bd.a G (.h _) i)))))
theorem OW(u:a6 B a z d b f):a6 B a z d (.aa b)<|hK f [.Eq] [qZ [] p] S:=λA c L j n i F R k=>ye (u.e i F R k λW x a' G b' w M y=>by
 refine List_<|o6<|rH (ch (bF.a y) λl C c' D=>hw (G.e M C) λq E d' H K N m=>J H ?_)<|f7 _;haveI g:=cj.o W.d {cls:=bq "list",data:=c9 (c1 [])};refine c3 (Q:=λx X=>x=jw (a0<|l=[])/\X={W.d with heap:=co W.d.heap {cls:=bq "list",data:=c9 (c1 [])}}) ?_ (λx X M=>?_) λm m k=>k
 .haveI v:=N.a;have r:Tr (co W.d.heap {cls:=bq "list",data:=c9 (c1 [])}) q E:=d8 _ (g.p _ _ K) I _ I;haveI t:Tr (co W.d.heap {cls:=bq "list",data:=c9 (c1 [])}) (aX W.d.heap.objs) #[]:=d8 _ (d2 _ I) I _ I;by_cases o:l=[]
  .subst o;haveI P:=Array.eq_empty_of_size_eq_zero v.symm;subst P;exact eq_listAt (e:=λm=>an) (s:={W.d with heap:=co W.d.heap {cls:=bq "list",data:=c9 (c1 [])}}) r t I (uZ i.e) (λe' T=>aA T<|my _) ⟨I,I⟩
  .refine eq_list_lengthsAt (s:={W.d with heap:=co W.d.heap {cls:=bq "list",data:=c9 (c1 [])}}) r t ?_ (uZ i.e) ⟨by simp[o],I⟩;simp at v⊢;rintro rfl;simp at v;exact o v
 .obtain⟨rfl,rfl⟩:=M;exact bd.i w<|bd.b G g (.h _) D)
def wn(K:ba->av->Prop):V->av->Prop:=λv N=>v.l λb=>K b N
inductive lX(B:bZ)(c:bl)(K:ba->av->Prop)(b:ba):bB->Prop|mk(e:bl)(R:aV B e)(S:a8 ce c e)(q:K b e.a):lX B c K b e.d
def eY(B:bZ)(a:bT)(z:O->a3 bg)(d:O)(b:a5)(e:cC):Prop:=∀(A:cR)(T:dF)(L:U V)(c:bl)(K:ba->av->Prop),da A d->cv a T L c->aV B c->bA (aO z d) b L (wn K) c.a->bc (a7 B.b B.a) A (isTrue e T<|dU e T) (lX B c K) (λp p=>bW) c.d
theorem lX.i{K b X}(S:a8 ce c e)(h:lX B e K b X):lX B c K b X:=h.casesOn λa R p q=>⟨a,R,S.i p,q⟩
theorem Ea(S:a8 ce c e)(h:bc (a7 B.b B.a) A m (lX B e Q) bP e.d):bc (a7 B.b B.a) A m (lX B c Q) bP e.d:=c3 h (λp p=>lX.i S) λp p h=>h
theorem eY.e(h:eY B a z d i g){K:ba->av->Prop}(l:da A d)(F:cv a T L c)(R:aV B c)(t:bA (aO z d) i L (wn K) c.a)(k:∀f b,aV B f->cv a T L f->a8 ce c f->K b f.a->P b f.d):bc (a7 B.b B.a) A (isTrue g T<|dU g T) P E c.d:=c3 (h A T L c K l F R t) (λj j p=>p.casesOn λf m S q=>k f _ m (F.i R S) S q) λj j h=>be h
def Cn:cC->ba|q2 .Not _ _|g1 _ _ _|xW _ _ _ _|hK _ _ _ _=>ax|_=>an
set_option tactic.hygienic true in theorem Rh{g:a5}{e:cC}(s:a6 B a z d g e)(i:Cn e=an):eY B a z d g e:=λA T L c K j F R h=>isTrue_plain (s.e j F R h λW x l G y n M f=>oy f M λb f=>kY ⟨W,G,n,f⟩) (by
 induction e using es<;>first|rfl|cases i|skip
 rename_i k _ _;induction k<;>first|rfl|cases i)
theorem Rc(m:B.e)(s:a6 B a z d g i)(n:a6 B a z d b e)(T:jx (fx f) e=ax):eY B a z d (.l f g b)<|hK i [fx f] [e] S:=λA D L c K j F R h=>wpAny_isTrue_Compare1 (s.e j F R h λW x H G o p M q=>n.e j o G q λN y P E Q k r t=>s9 m j E (M.i G (cn _) k) r t λu b v w C=>kY ⟨u,v,p.i<|k.i w,C⟩) T
theorem Rd(p:B.e)(w:a6 B a z d f g)(C:a6 B a z d b k)(D:a6 B a z d e M)(T:jx (fx j) M=ax):eY B a z d (.R l j f b e)<|hK g [fx l,fx j] [k,M] S:=λc' d' e' f' g' m F H h=>isTrue_chain (w.e m F H h λh' i' j' G N q P Q=>test_link<|C.e m N G Q λk' l' m' E W n s X=>s9 p m E (P.i G (cn _) n) s X λc t o r u=>kY (by
 induction t
 .exact⟨c,o,q.i<|n.i r,u⟩
 .exact test_last<|D.e m (W.i E r) o u λn' o' p' x q' v y A=>s9 p m x ((s.i E (cn _) r).i o (cn _) v) y A λK b L a' b'=>kY ⟨K,L,(q.i<|n.i r).i<|v.i a',b'⟩)) T
theorem Re(s:a6 B a z d f (hK l [e] [r] S))(T:jx e r=ax):eY B a z d f<|hK l [e] [r] S:=λA g L c K i F R h=>by rw[isTrue_Compare1,TF T];haveI:=s A g L c _ i F R h;rw[eval_Compare1,TF T]at this;simpa using(aS<|c3 this (λv X p=>p.casesOn λj x E k M C=>oy C M λb C=>eh<|kY ⟨j,E,k,C⟩) λm m h=>h)
theorem Rf(s:eY B a z d f e):eY B a z d (.A f)<|q2 .Not e S:=λk T L c g i F R h=>isTrue_not<|s.e (K:=λb N=>g (!b) N) i F R h λj b E l p q=>⟨j,E,p,q⟩
theorem DX(s:eY B a z d f e)(j:eY B a z d b (g1 mB m S)):eY B a z d (.t f b)<|g1 mB (e::m) S:=λA T L c K g F R h=>isTrue_and (s.e g F R h λi k E l p q=>by
 induction k
 .exact⟨i,E,p,q⟩
 .exact Ea p<|j A T L i K g l E q)
theorem DY(s:eY B a z d f e)(j:eY B a z d b (g1 .Or m S)):eY B a z d (.B f b)<|g1 .Or (e::m) S:=λA T L c K g F R h=>isTrue_or (s.e g F R h λi t E k p q=>by
 induction t
 .exact Ea p<|j A T L i K g k E q
 .exact⟨i,E,p,q⟩)
theorem Rb(s:eY B a z d b e):eY B a z d b<|g1 mB [e] S:=λA T L c K g F R h=>isTrue_and (s.e g F R h λf t E i p q=>by
 induction t
 .exact⟨f,E,p,q⟩
 .exact isTrue_and_nil ⟨f,E,p,q⟩)
theorem Rg(s:eY B a z d b e):eY B a z d b<|g1 .Or [e] S:=λA T L c K g F R h=>isTrue_or (s.e g F R h λf t E i p q=>by
 induction t
 .exact isTrue_or_nil ⟨f,E,p,q⟩
 .exact⟨f,E,p,q⟩)
theorem OU(s:eY B a z d f g)(m:a6 B a z d b i)(n:a6 B a z d e M):a6 B a z d (.D f b e)<|xW g i M S:=λA T L c Q j F R h=>IfExp_ (s.e j F R h λk t E l p q=>by
 induction t
 .exact jV p<|n A T L k Q j l E q
 .exact jV p<|m A T L k Q j l E q)
theorem C2(s:a6 B a z d f e)(j:a6 B a z d b (g1 mB (k::m) S)):a6 B a z d (.t f b)<|g1 mB (e::k::m) S:=λA T L c Q i F R l=>BoolOp_and<|s.e i F R l λW x p G y n M g=>oy g M λo g=>kY (by
 induction o
 .exact bd.i n<|bd.a G (.h _) g
 .exact jV n<|j A T L W Q i y G g)
theorem C5(s:a6 B a z d f e)(j:a6 B a z d b (g1 .Or (k::m) S)):a6 B a z d (.B f b)<|g1 .Or (e::k::m) S:=λA T L c Q i F R l=>BoolOp_or<|s.e i F R l λW x o G y n M g=>oy g M λt g=>kY (by
 induction t
 .exact jV n<|j A T L W Q i y G g
 .exact bd.i n<|bd.a G (.h _) g)
theorem C3(s:a6 B a z d b e):a6 B a z d b<|g1 f [e] S:=λA T L c Q g F R h=>BoolOp_one<|s A T L c Q g F R h
theorem O8(s:a6 B a z d b e):a6 B a z d (.A b)<|q2 .Not e S:=λj T L c Q g F R i=>TL<|s.e g F R i λW x k G y n M f=>oy f M λt f=>not_of<|kY<|bd.i n<|bd.a G (.h _) f
end
end
end
section
variable{B:bZ}{c:bl}
mutual
theorem aV.z(R:aV B c)(g:cN->aU)(A:av)(X:bB)(a:aU)(j:cN->cN)(n:∃L,c.a.h L/\c.b L=a)(C:∀N o,N≠a->c.d.heap.get? N=Y o->X.heap.get? N=Y o)(u:∃T,X.heap.get? a=Y T)(w:X.gens=c.d.gens)(v:X.os=c.d.os)(t:A.d=c.a.d)(r:A.f=c.a.f)(y:∀L,c.a.e L<=A.e L)(K:∀Q,A.e (.e Q)=c.a.e (.e Q))(s:∀L,A.h L->c.a.h (j L)/\g L=c.b (j L))(D:∀L P,A.h L->A.h P->j L=j P->L=P)(E:∀L,A.e L=c.a.e L->nq c.a.d L->A.h L->j L=L)(F:∀o,g (.f o)=c.b (.f o))(H:∀Q,c.a.d<=Q->A.a Q=au)(W:c6 c ⟨g,c.c,A,X⟩->∀L x,A.g L=Y x->fG B ⟨g,c.c,A,X⟩ (g L) x\/(c.a.g (j L)=Y x/\g L≠a))(b:A.m=c.a.m:=by rfl):aV B ⟨g,c.c,A,X⟩/\a8 ce c ⟨g,c.c,A,X⟩:=by
 have S:a8 ce c ⟨g,c.c,A,X⟩:=by
  refine⟨λN o d e' h=>C N o (λq=>ay n λL i m=>h L i<|bx m q.symm) d,λN o d=>aE (eo<|N=a) (λq=>J q u) λq=>⟨o,C N o q d⟩,λL h=>aK<|aF (j L) (s L h).1 (s L h).2.symm,jt t.symm,y,K,λL d k h=>?_,λo h=>⟨J r h,I⟩⟩
  .haveI:=s L h;replace this:=(E L d k h)▸this;exact this
 have M:=S.a R<|cn c;refine⟨⟨λN o d=>?_,bx w R.j,bx v R.f,λL x d=>?_,λL h=>haveI:=s L h;(J this.2<|R.r _ this.1:B.c.get? (g L)=au),λL P h p d=>?_,λo h=>?_,λQ l=>H Q<|az t l,λN L d=>R.m N L<|az b d⟩,S⟩
 .refine C N o (λq=>ay n λL i m=>?_)<|R.d N o d;haveI:=R.r L i;rw[m,<-q,d]at this;exact aC this ar
 .refine aE (W M L x d) (λh=>h) λa'=>aM a' λh G=>?_
  .refine aM (s L ⟨x,d⟩) λf' b'=>(?_:fG B _ (g L) x);rw[b']at G⊢;exact(R.g _ _ h).f M λo c'=>C _ _ G c'
 .haveI i:=s L h;haveI d:g L=g P:=d;rw[i.2,(s P p).2]at d;exact D L P h p<|R.inj _ _ i.1 (s P p).1 d
 .rw[r]at h;have:=R.s o h;refine(?_:X.heap.get? (c.c o)=Y ⟨aN<|cw o,Y<|g<|.f o,nI,#[]⟩);rw[F];exact ay n λL i m=>C _ _ (λd'=>R.n this KJ L i<|bx m d'.symm) this
theorem aV.i(R:aV B c)(A:av)(X:bB)(d:cN)(w:b8)(f:c.a.h d)(C:∀L o,L≠c.b d->c.d.heap.get? L=Y o->X.heap.get? L=Y o)(n:X.gens=c.d.gens)(r:X.os=c.d.os)(t:A.d=c.a.d)(s:A.f=c.a.f)(g:A.e=c.a.e)(j:∀a,a≠d->A.g a=c.a.g a)(u:A.g d=Y w)(v:∀N,c.a.d<=N->A.a N=au)(y:c6 c ⟨c.b,c.c,A,X⟩->fG B ⟨c.b,c.c,A,X⟩ (c.b d) w)(D:∃P,X.heap.get? (c.b d)=Y P)(E:A.m=c.a.m:=by rfl):aV B ⟨c.b,c.c,A,X⟩/\a8 ce c ⟨c.b,c.c,A,X⟩:=by
 have m:∀a,A.h a->c.a.h a:=λa F=>bH F λx e=>by
  by_cases q:a=d
  .exact J q f
  .exact⟨x,az (j a q) e⟩
 refine R.z c.b A X (c.b d) id (aF d f I) C D n r t s (λa=>g▸(b4 _)) (λN=>g▸I) (λa h=>⟨m a h,I⟩) (λa G p p e=>e) (λp p p p=>I) (λp=>I) v (λM a x e=>?_) E;by_cases q:a=d
 .cases q;replace e:=u▸e;exact az (bE e)<|aK<|y M
 .exact a1 ⟨(j a q).symm.trans e,λz=>q<|R.inj _ _ (m a ⟨x,e⟩) f z⟩
structure mO(s X:bB)(a:aU)(o:ik):Prop where
 g:X.heap.get? a=Y o
 i:∀b y,b≠a->s.heap.get? b=Y y->X.heap.get? b=Y y
 j:X.gens=s.gens
 f:X.os=s.os
def h8(X:cQ aZ)(n:O):ik:=⟨bq "list",au,c9 X n,#[]⟩
theorem kH(f:O->α)(i:O)(x:α):aw f i x i=x:=a9 I
theorem ji(f:O->α)(x:α)(h:j≠i):aw f i x j=f j:=bf h
theorem kG(F:O->O->cd)(o a:O)(x:cd):dh F o a x o a=x:=a9 ⟨I,I⟩
theorem ny(F:O->O->cd)(x:cd)(h:¬(y=o/\b=a)):dh F o a x y b=F y b:=bf h
theorem AS{N:av}(P:∀r,n.q r=(N.c o m).q r)(l:cN)(z:l=.b o m->∀r,n.d r=(N.c o m).d r)(A:∀i,l=.a o m i->(n.b λx=>(x[i]?).map b8.e)=(N.c o m).b λx=>(x[i]?).map b8.e):(av.mk (dh N.c o m n) N.f N.e N.a N.d N.m).g l=N.g l:=by
 have D:∀{α:Type}(y c:O)(k:cd->α),(y=o/\c=m->k n=k (N.c o m))->k (dh N.c o m n y c)=k (N.c y c):=λy c k h=>by
  refine aE (eo<|y=o/\c=m) (λp=>?_) λp=>J (ny _ _ p) I
  .rw[p.1,p.2,kG];exact h p
 induction l with|b y c=>exact D y c (λs=>(s.d λi=>V.j (.a y c i)<|N.e<|.a y c i).map b8.e) λp=>aW _<|z (p.1▸p.2▸I) _|a y c i=>exact D y c (λs=>s.b λx=>(x[i]?).map b8.e) λp=>A i<|p.1▸p.2▸I|e k=>rfl|f y=>exact aW (λu=>if N.f y=an then Y (b8.a u)else au)<|jy λt=>D y t (λs=>s.q<|.j (.b y t)<|N.e<|.b y t) λv=>P _
theorem of{α:Type}{l:U α}{x:α}(h:l[i]?=Y x):i<Z l:=(lH.mp h).1
theorem aV.p(R:aV B c)(m:aY c x (aN T))(t:c.a.i x=Y L)(d:c.a.p x P=Y S)(H:mO c.d X T (h8 Q N))(u:bm c P (cx Q)):aV B ⟨c.b,c.c,S,X⟩/\a8 ce c ⟨c.b,c.c,S,X⟩:=by
 revert R x T;revert B c L P S X Q N;refine@fk _<|e0 @(letI B:=_;letI c:=_;letI L:=_;letI P:=_;letI S:=_;letI X:=_;letI Q:=_;letI N:=_;(e3 ?_:eE _ _ B c L P S X Q N));intros;induction x using V.casesOn with
 |e A=>refine ay (mu t) λv f v=>az (bE d) ?_;haveI C:=i7 f;obtain rfl:=m.s.2 ⟨_,C⟩;refine R.i _ X (.e A) (.e P) ⟨_,C⟩ H.i H.j H.f I I I (λL G=>?_) (i7<|kH _ _ _) (λw s=>(ji _ _ (by exact zo m.s.1 s)).trans<|R.q w s) (λM=>dr Q N H.g<|u.f M) ⟨_,H.g⟩;induction L with|e w=>exact aW (λo=>iG o (λL=>Y<|b8.e L) λL=>Y<|b8.b L)<|ji _ _ λh=>G<|az h I|_=>rfl
 |j D g=>
  refine aM (BS t) λE C=>?_;obtain rfl:=m.t E ⟨_,C⟩;induction D with
  |b o y=>
   rcases wo d with⟨_,f,d⟩|⟨_,_,d⟩
   .exact az (bE d)<|R.i _ X (.b o y) (.e P) ⟨_,C⟩ H.i H.j H.f I I I (λL G=>AS (λr=>J f I) L (λh=>be (G h)) λi v=>J f I) (HS<|kG _ _ _ _) R.q (λM=>dr Q N H.g<|u.f M) ⟨_,H.g⟩
   .exact aC d ar
  |a o y i=>obtain⟨F,f,d⟩:=wq d;exact az (bE d)<|R.i _ X (.a o y i) (.e P) ⟨_,C⟩ H.i H.j H.f I I I (λL G=>AS (λr=>J f I) L (λv r=>J f<|aW (λN=>Y<|(b2 N).map r) jZ) λw s=>J f<|aW (xN b8.e)<|jo λh:i=_=>G<|bx s (by exact az h I)) ((pW<|kG _ _ _ _).trans<|aW (xN b8.e)<|jp<|of (by have:=(pW f).symm.trans C;cases q:F[i]?with|none=>rw[q]at this;exact aC this ar|some z=>replace this:=q▸this;cases this;rfl)) R.q (λM=>dr Q N H.g<|u.f M) ⟨_,H.g⟩
  |_=>exact aC d ar
 |k T=>exact aC d ar
 |_=>exact aC t ar
end
end
mutual
def i9:O->O->ba|0,a=>a0<|a<28|1,a=>a==28||a==29||a==30||a==7||a==31|2,a=>a==13||a==32||a==33|_,_=>ax
structure i0(K:et):Prop where
 l:∀o,x0 K (cw o)=an
 c:∀o,g5 K (aN<|cw o) "__getattribute__"=Y (Y<|cH "object.__getattribute__")
 d:∀o,g5 K (aN<|cw o) "__setattr__"=Y (Y<|cH "object.__setattr__")
 b:∀o,x3 K (cw o)=an
 i:∀o a,i9 o a=an->g5 K (aN<|cw o) (gG<|n8 a)=Y au
abbrev eK(a:O):aQ:=gG<|n8 a
theorem At:∀i<fY,∀j<fY,n8 i=n8 j->i=j:=by decide+kernel
theorem l9(h:a=k)(d:e6 k 34=an):a<fY:=h▸EK d
theorem vT(h:i9 o a=an):a<fY:=by cases o with|zero=>exact ci (fa h) as|succ o=>cases o with|zero=>replace h:(a==28||a==29||a==30||a==7||a==31)=an:=h;simp at h;exact aE h (λh=>aE h (λh=>aE h (λh=>aE h (l9 · I) (l9 · I)) (l9 · I)) (l9 · I)) (l9 · I)|succ o=>cases o with|zero=>replace h:(a==13||a==32||a==33)=an:=h;simp at h;exact aE h (λh=>aE h (l9 · I) (l9 · I)) (l9 · I)|succ o=>exact be (nD h)
theorem Ks(h:iY c b f)(s:a<fY)(g:e∈b)(A:e.key.isStr (eK a)=an):f a≠.d:=by refine dd (h.g e g) λi t y C j=>?_;replace A:=C▸A;exact az (At i y a s<|s5<|gk A) j
set_option tactic.hygienic true in theorem Ba{A:aQ}{a:U iV}{v:aZ}(h:pj A a=Y (Y v)):∃e,a.find? (·.key.isStr A)=Y e/\e.val=v:=by delta pj at h;cases q:a.find? (·.key.isStr A)with|some e=>rw[q]at h;cases bE h;exact aF e I I|none=>rw[q]at h;dsimp only at h;split at h<;>exact nomatch h
theorem CK(A:aQ)(P:am)(D v:aZ)(a:U iV):Z (hM A P D v a)=if a.any (·.key.isStr A)then(Z a)else Z a+1:=by
 induction a with
 |nil=>rfl
 |cons e r d=>
  unfold hM;by_cases h:e.key.isStr A=an
  .simp[h]
  .simp only[h,List.any_cons,Ej,kP];simp only[nC,po,kP];refine J d ?_;split<;>rfl
theorem NF:∀{e:iV},e∈hM a P (fz a t) v b->(∃k∈b,e.key=k.key)\/(e.key=fz a t):=by
 induction b with
 |nil=>intro e h;simp only[hM,b9]at h;exact J h<|a1 I
 |cons x r d=>
  intro e h;unfold hM at h;split at h
  .rcases cu.mp h with rfl|h
   .exact aK<|aF x (bu ..) I
   .exact aK<|aF e (cm _ h) I
  .rcases cu.mp h with rfl|h
   .exact aK<|aF e (bu ..) I
   .exact aE (d h) (λX=>ay X λk A i=>aK<|aF k (cm _ A) i) λh=>a1 h
theorem Im{name:aQ}{hsh:am}{t:eV}{v:aZ}{H:U iV}:∃e,(hM name hsh (fz name t) v H).find? (·.key.isStr name)=Y e/\e.val=v:=by
 induction H with
 |nil=>exact aF ⟨hsh,fz name t,v⟩ (List.find?_cons_of_pos<|show Value.isStr (fz name t) name=an from yj name) I
 |cons x r d=>
  unfold hM;by_cases h:x.key.isStr name=an
  .exact J (a9 h)<|aF ⟨x.hash,x.key,v⟩ (by simp[h]) I
  .refine J (bf h)<|ay d λe A i=>aF e ?_ i;simp only[Bool.not_eq_true]at h;exact J tK<|J h A
set_option tactic.hygienic true in theorem Bx{v:aZ}{a b:aQ}(h:v.isStr a=an)(c:v.isStr b=an):a=b:=by
 refine bb ?_;intro p;induction v<;>first|cases h|skip
 rename_i s t;exact(gk h).symm.trans<|gk c
theorem Il{A n:aQ}{P:am}{t:eV}{v:aZ}(G:n≠A){b:U iV}:∀{e:iV},b.find? (·.key.isStr n)=Y e->∃k,(hM A P (fz A t) v b).find? (·.key.isStr n)=Y k/\k.val=e.val:=by
 induction b with
 |nil=>intro e h;cases h
 |cons x r d=>
  intro e h;unfold hM;rw[tK]at h;split at h
  .rename_i a;refine az (bE h) ?_;haveI:x.key.isStr A=ax:=by cases q:x.key.isStr A with|false=>rfl|true=>exact aA (Bx a q) G
   exact J (bf (by exact J this as))<|J tK<|J a<|aF x I I
  .rename_i a;by_cases q:x.key.isStr A=an
   .refine J (a9 q)<|J tK ?_;simp only[a];exact aF e h I
   .refine J (bf q)<|J tK ?_;simp only[a];exact d h
theorem Ck{c:bl}{a:U iV}{f:O->V}(h:∀e∈a,∃i t,e.key=fz (eK i) t):a.any (·.refKey)=ax:=by rw[xr];refineλe b=>f2 (h e b) λi t C=>?_;delta DictEntry.refKey;refine J C ?_;simp
theorem A9{A:aQ}{a:U iV}{e:iV}(h:a.find? (·.key.isStr A)=Y e):pj A a=Y (Y e.val):=by delta pj;exact J h I
theorem iY.i(b':c6 c z)(B:iY c p o)(C:k<fY)(T:∀j,j≠k->n j=o j)(G:n k≠.d)(c':aY z (n k) u):iY z (hM (eK k) P (fz (eK k) D) u p) n:=by
 refine⟨λs L=>?_,?_,λj w H=>?_⟩
 .refine bb ?_;intro d';refine aE (NF L) (λe'=>ay e' λX A N=>?_) λA=>fv k D C A G
  .refine dd (B.g X A) λj f' w g' H=>fv j f' w (bx N g') ?_;by_cases q:j=k
   .exact J q G
   .exact J (T j q) H
 .rw[CK];by_cases q:o k=.d
  .have s:p.any (·.key.isStr<|eK k)=ax:=by rw[xr];exactλs L h'=>Ks B C L h' q
   refine J s ?_;haveI i':∀(l:U O),k∈l->(b0 l)->(l.countP λj=>(o j).m)+1<=l.countP λj=>(n j).m:=by
    intro l;induction l with
    |nil=>intro Q;cases Q
    |cons y r j'=>
     refineλQ x=>J xt<|J xt ?_;by_cases R:y=k
     .subst R;haveI E:(r.countP λj=>(n j).m)=r.countP λj=>(o j).m:=by apply Sj;intro j w;rw[T j λs=>(dO.mp x).1<|az s w]
      refine az E ?_;haveI S:(n y).m=an:=by cases F:n y<;>first|rfl|exact be (G F)
      exact J (show(o y).m=ax from J q I)<|J S<|b4 _
     .exact az (T y R)<|(aq [1,1] I:ap 3 0 [.g (.h .a) .b] (.g (.h<|.e .a .f)<|.e .b .f))<|j' (aE (cu.mp Q) (λA=>aA A.symm R) λA=>A:k∈r) (dO.mp x).2
   exact(aq [1,1,1] I:ap 3 0 [.g .a .b,.g (.h .b) .f] (.g (.h .a) .f)) B.a<|i' (b2 fY) (ed.mpr C) List.nodup_range
  .refine ay (B.b k C q) λM E k'=>ay (Ba E) λs K k'=>J (lF.mpr<|aF s (List.mem_of_find?_eq_some K)<|List.find?_some K)<|J (a9 I)<|aH B.a<|jt ?_;apply Sj;intro j w;by_cases a':j=k
   .subst a';rw[(by cases F:o j<;>first|rfl|exact be (q F):(o j).m=true),(by cases F:n j<;>first|rfl|exact be (G F):(n j).m=true)]
   .rw[T j a']
 .by_cases q:j=k
  .induction q;refine ay (Im (H:=p) (name:=eK j) (hsh:=P) (t:=D) (v:=u)) λs A N=>?_;haveI W:=A9 A;replace W:=N▸W;exact aF u W c'
  .rw[T j q]at H⊢;refine bb ?_;intro d';exact ay (B.b j w H) λM E A=>ay (Ba E) λs K S=>ay (Il (λs=>q<|At j w k C<|s5 s) K) λX l' m'=>aF M (az S<|az m'<|A9 l')<|A.f b'
end
section
variable{B:bZ}
mutual
theorem aV.y(R:aV B L)(h:L.a.f o=an):∃M N,L.d.heap.get? (L.b<|.f o)=Y (kX M N)/\iY L M (λP=>L.a.j o P)/\InstAt (bz L.d) (L.c o) ⟨aN<|cw o,Y<|L.b<|.f o,nI,#[]⟩ (cw o) (Y<|kX M N):=cF (R.g _ _ (by delta av.g;simp only[h,hO]:L.a.g (.f o)=some (.a λP=>L.a.j o P))) λM N x b=>fv M N x b ⟨R.s o h,I,I,x⟩
theorem aY.u(d:aY c D y):handedIn y=an:=by cases d<;>rfl
set_option tactic.hygienic true in theorem Iu{N:av}{o a:O}{v:V}(h:N.n o a=Y v):N.j o a=v/\v≠.d:=by delta av.n at h;revert h;generalize N.j o a=x;intro h;induction x using V.casesOn<;>first|exact⟨bE h,bE h▸ar⟩|exact aC h ar
theorem JW(X:B.d.In B.c)(K:i0 B.d){A:cR}{c:bl}{o f:O}{v:V}{l:ba}{P:aZ->bB->Prop}(R:aV B c)(T:i9 o f=an)(g:c.a.f o=an)(h:c.a.n o f=Y v)(k:∀d,aY (c.h {c.d with toks:=cA c.d+1}) v d->P d {c.d with toks:=cA c.d+1}):bc (a7 B.b B.a) A (x7 (aN<|c.c o) (eK f) l) P bP c.d:=by refine bb ?_;intro r;refine dd (R.y g) λs n t j z=>aM (Iu h) λp q=>ay (j.b f (vT T)<|J p q) λd m i=>?_;rw[p]at i;exact get_value (λb o e=>R.d _ _<|X b o e) z (K.c o) (findObj_own (K.l o) (K.i o f T) I m) i.u<|k d<|i.f<|(a8.h ce<|cj.a c.d _).a R<|cn c
end
section
variable{prog:g3}{w:fB}{A:cR}{E:aZ->bB->Prop}{s:bB}{K:et}{x C dx:aU}
mutual
theorem Ok{e:aQ}{v:aZ}{f:U iV}{n:O}{Q:cI->bB->Prop}(X:K.In (bz s))(z:InstAt (bz s) x ⟨aN C,Y dx,nI,#[]⟩ C (Y<|kX f n))(k:g5 K (aN C) "__setattr__"=Y (Y<|cH "object.__setattr__"))(l:x3 K C=an)(o:g5 K (aN C) e=Y au)(p:x0 K C=an)(q:f.any (·.refKey)=ax)(t:Z (hM e (rd w.params e) (fz e<|cA s+1) v f)<=1000)(u:∀d,mO s d dx (kX (hM e (rd w.params e) (fz e<|cA s+1) v f)<|putN e f n)->Q () d):bc (a7 prog w) A (setAttr (aN x) e v) Q E s:=by
 revert prog w A E s K x C dx e v f n Q;refine@CF _<|h0 @(letI prog:=_;letI w:=_;letI A:=_;letI E:=_;letI s:=_;letI K:=_;letI x:=_;letI C:=_;letI dx:=_;letI e:=_;letI v:=_;letI f:=_;letI n:=_;letI Q:=_;(ic ?_:he _ _ _ _ _ _ _ _ _ _ _ _ prog w A E s K x C dx e v f n Q));intros;obtain⟨i,y,m,D,L⟩:=s;refine set_plain X z k<|osa_open (s:=⟨i,y,m,D+1,L⟩) X z l (r:=au) (by delta takerIn;exact J o I) λb=>ay (any_some p) λM B T=>aS<|bC<|aS<|aS<|TQ z.at_<|aS<|Looks.here (s:=⟨i,y,m,D+1,L⟩) (looks_clsIn X B)<|T.symm▸(bC (a:=Y dx)<|aS<|bC<|aS<|aS<|aS<|pn<|bC<|aS<|wpAny_mkText<|aS<|TQ z.dict ?_);dsimp only;haveI F:(!f.toArray.any (·.key.isStr e)&&f.toArray.any (·.refKey))=ax:=by refine az RU<|az RU ?_;simp only[q,Bool.and_false]
 rw[aRefKeyMayBeTheName_at,F];refine wpAny_updatePart z.dict ?_;haveI j:(i.update dx<|Tw e (rd w.params e) (fz e<|D+1) v).get? dx=Y (kX (hM e (rd w.params e) (fz e<|D+1) v f)<|putN e f n):=by haveI:=q5 (Tw e (rd w.params e) (fz e<|D+1) v) z.dict (by rw[putName_dict];rfl);rw[putName_dict]at this;exact this
 exact aS<|wpAny_lookBehind j (pastItsLine_dict<|J mv<|J j5<|(aq [1,1] I:ap 1 0 [.g .a<|.c 1000] (.g .a<|.h<|.c 16777216)) t)<|bC<|u _ ⟨j,λb N G H=>(Tt _ _<|f8 G).trans H,I,I⟩
end
end
end
mutual
def jd(o a:O)(p:cN)(q:O->cN):cN->cN|.b y c=>if y=o/\c=a then p else .b y c|.a y c i=>if y=o/\c=a then q i else .a y c i|l=>l
def dg(y:av)(o a:O)(x:cd)(T':O->a3 b8):av:=⟨dh y.c o a x,y.f,dz y.e o a,T',y.d,y.m⟩
end
section
variable{y:av}{o a:O}{x:cd}{T':O->a3 b8}
mutual
theorem Ay(h:¬(e=o/\f=a)):dz g o a (.b e f)=g (.b e f)/\∀i,dz g o a (.a e f i)=g (.a e f i):=⟨bf h,λp=>bf h⟩
theorem Qv(h:¬(e=o/\f=a)):(dg y o a x T').g (.b e f)=y.g (.b e f):=(J (ny _ _ h)<|J (jy λi=>aW (V.j<|.a e f i)<|(Ay h).2 i) I:((dh y.c o a x e f).d λi=>V.j (.a e f i)<|dz y.e o a<|.a e f i).map b8.e=_)
theorem Qy(h:¬(e=o/\j=a)):(dg y o a x T').g (.a e j i)=y.g (.a e j i):=aW (λf:cd=>f.b λb=>(b[i]?).map b8.e)<|ny _ _ h
theorem DG(h:¬(e=o/\f=a)):(dg y o a x T').j e f=y.j e f:=(J (ny _ _ h)<|J (Ay h).1 I:(dh y.c o a x e f).q (.j (.b e f)<|dz y.e o a<|.b e f)=_)
theorem Qt(h:e≠o):(dg y o a x T').g (.f e)=y.g (.f e):=aW (λb=>if y.f e=an then Y (b8.a b)else au)<|jy λc=>DG λq=>h q.1
theorem Qz(h:T' k=y.a k):(dg y o a x T').g (.e k)=y.g (.e k):=aW (λo=>iG o (λl=>Y<|b8.e l) λl=>Y<|b8.b l) h
theorem lB:(dg y o a x T').j o a=x.q (.j (.b o a)<|y.e (.b o a)+1):=by refine(?_:(dh y.c o a x o a).q (.j (.b o a)<|dz y.e o a<|.b o a)=_);rw[kG,show dz y.e o a (.b o a)=y.e (.b o a)+1 from a9 ⟨I,I⟩]
theorem w2:(dg y o a x T').g (.b o a)=(x.d λi=>V.j (.a o a i)<|dz y.e o a<|.a o a i).map .e:=aW (λf:cd=>(f.d λi=>V.j (.a o a i)<|dz y.e o a<|.a o a i).map b8.e)<|kG ..
theorem w3:(dg y o a x T').g (.a o a i)=x.b λh=>(h[i]?).map .e:=aW (λf:cd=>f.b λh=>(h[i]?).map b8.e)<|kG ..
end
end
mutual
theorem mo:jd e f p q (.b e f)=p:=a9 ⟨I,I⟩
theorem lu:jd e f p q (.a e f i)=q i:=a9 ⟨I,I⟩
theorem vG{y:av}(h:y.a j=au):y.g (.e j)=au:=aW (λo=>iG o (λl=>Y<|b8.e l) λl=>Y<|b8.b l) h
inductive FT(y A:av)(o a:O)(p:cN)(q:O->cN)(l:cN):Prop|c(h:jd o a p q l=l)(n:l≠.f o)(g:∀d,A.g l=Y d->y.g l=Y d)(Q:∀j,l=.e j->.e j≠p/\∀i,.e j≠q i)|b(h:l=.b o a)|a(i:O)(h:l=.a o a i)|f(h:l=.f o)
theorem Rt{y:av}{o a:O}{x:cd}{T':O->a3 b8}{p:cN}{q:O->cN}(z:∀j,T' j=au\/(T' j=y.a j/\cN.e j≠p/\∀i,cN.e j≠q i)):∀l,(dg y o a x T').h l->FT y (dg y o a x T') o a p q l|.b m r,_=>aE (eo<|m=o/\r=a) (λd=>.b<|d.1▸(az d.2 I)) λd=>.c (bf d) ar (λn g=>(Qv d).symm.trans g) ar|.a m r i,_=>aE (eo<|m=o/\r=a) (λd=>.a i<|az d.1<|az d.2 I) λd=>.c (bf d) ar (λn g=>(Qy d).symm.trans g) ar|.e j,⟨n,g⟩=>aE (z j) (λd=>aC ((vG d).symm.trans g) ar) λd=>.c I ar (λn g=>(Qz d.1).symm.trans g) λk C=>az C d.2|.f m,_=>aE (eo<|m=o) (λd=>.f<|az d I) λd=>.c I (λg=>d (by cases g;rfl)) (λn g=>(Qt d).symm.trans g) ar
end
section
variable{B:bZ}
mutual
def bl.e(c:bl)(o a:O)(x:cd)(T':O->a3 b8)(p:cN)(q:O->cN)(N:bB):bl:=⟨λl=>c.b<|jd o a p q l,c.c,dg c.a o a x T',N⟩
theorem wF{c:bl}(R:aV B c){o a:O}{x:cd}{T':O->a3 b8}{p:cN}{q:O->cN}{N:bB}{hsh:am}{tk:eV}{b:aZ}{H:U iV}{n d:O}(h':a<fY)(W:c.a.f o=an)(q':c.d.heap.get? (c.b<|.f o)=Y (kX H n))(i':iY c H (λa=>c.a.j o a))(E:mO c.d N (c.b<|.f o) (kX (hM (eK a) hsh (fz (eK a) tk) b H) d))(X:∀m,T' m=au\/(T' m=c.a.a m/\cN.e m≠p/\∀i,cN.e m≠q i))(y:(dg c.a o a x T').h (.b o a)->c.a.h p/\∃m,p=.e m)(a':∀i,(dg c.a o a x T').h (.a o a i)->c.a.h (q i)/\∃m,q i=.e m)(b':∀i,(dg c.a o a x T').h (.a o a i)->q i≠p)(j':∀i m,(dg c.a o a x T').h (.a o a i)->(dg c.a o a x T').h (.a o a m)->q i=q m->i=m)(k':(dg c.a o a x T').j o a≠.d)(c':c6 c (c.e o a x T' p q N)->aY (c.e o a x T' p q N) ((dg c.a o a x T').j o a) b)(G:c6 c (c.e o a x T' p q N)->∀r,(dg c.a o a x T').g (.b o a)=Y r->fG B (c.e o a x T' p q N) (c.b p) r)(l':∀i r,(dg c.a o a x T').g (.a o a i)=Y r->c.a.g (q i)=Y r):aV B (c.e o a x T' p q N)/\a8 ce c (c.e o a x T' p q N)/\aY (c.e o a x T' p q N) ((dg c.a o a x T').j o a) b:=by
 revert R q hsh tk H d;revert B c o a x T' p N b n;refine@je _<|eZ @(letI B:=_;letI c:=_;letI o:=_;letI a:=_;letI x:=_;letI T':=_;letI p:=_;letI N:=_;letI b:=_;letI n:=_;(e2 ?_:eD _ _ _ _ _ B c o a x T' p N b n));intros;have L:c.a.h<|.f o:=⟨.a λa=>c.a.j o a,a9 W⟩;have Q:=Rt (o:=o) (a:=a) (x:=x) X;haveI d':∀l,(dg c.a o a x T').h l->c.a.h (jd o a p q l):=λl t=>by cases Q l t with|c s n P _=>exact J s<|t.imp P|b s=>subst s;exact J mo (y t).1|a i s=>subst s;exact J lu (a' i t).1|f s=>exact J s L
 have K:∀l,(dg c.a o a x T').h l->l=.b o a\/(∃i,l=.a o a i)->∃m,jd o a p q l=.e m:=λl t s=>by
  rcases s with rfl|⟨i,rfl⟩
  .exact J mo (y t).2
  .exact J lu (a' i t).2
 have e':∀l,(dg c.a o a x T').h l->l≠.f o->c.b (jd o a p q l)≠c.b (.f o):=λl t n z=>by have u:=R.inj _ _ (d' l t) L z;have G:¬∃m,jd o a p q l=.e m:=λm'=>bH m' λm s=>aC (bx s.symm u) ar;cases Q l t with|c s _ _ _=>exact n<|bx s.symm u|b s=>exact G<|K l t<|aK s|a i s=>exact G<|K l t<|a1 ⟨i,s⟩|f s=>exact n s
 have D:∀l v,(dg c.a o a x T').h l->(dg c.a o a x T').h v->jd o a p q v=v->(∀m,v=.e m->.e m≠p/\∀i,.e m≠q i)->jd o a p q l=jd o a p q v->l=v:=λl v t w A C u=>by cases Q l t with|c s _ _ _=>exact bx s.symm<|bx u A|b s=>refine bb ?_;intro r';obtain⟨m,F⟩:=K l t (aK s);exact aA (az F<|J s mo) (C m<|bx A.symm<|bx u.symm F).1|a i s=>obtain⟨m,F⟩:=K l t (a1 ⟨i,s⟩);exact aA (az F<|J s lu)<|(C m<|bx A.symm<|bx u.symm F).2 i|f s=>subst s;exact bx u A
 haveI n':=λl v t w u=>by
  cases Q v w with
  |c s _ _ C=>exact D l v t w s C u
  |f s=>exact D l v t w (J s I) (λm z=>aC (bx s.symm z) ar) u
  |b A=>cases Q l t with|c s _ _ C=>exact(D v l w t s C u.symm).symm|f s=>exact(D v l w t (J s I) (λm z=>aC (bx s.symm z) ar) u.symm).symm|b s=>exact bx s A.symm|a i s=>subst s A;rw[lu,mo]at u;exact aA u<|b' i t
  |a f' A=>cases Q l t with|c s _ _ C=>exact(D v l w t s C u.symm).symm|f s=>exact(D v l w t (J s I) (λm z=>aC (bx s.symm z) ar) u.symm).symm|b s=>subst s A;rw[lu,mo]at u;exact aA u.symm<|b' f' w|a i s=>subst s A;rw[lu,lu]at u;exact az (j' i f' t w u) I
 haveI S:aV B (c.e o a x T' p q N)/\a8 ce c (c.e o a x T' p q N):=by
  refine R.z _ _ N (c.b<|.f o) (jd o a p q) (aF _ L I) E.i ⟨_,E.g⟩ E.j E.f I I (λl=>?_) (λk=>I) (λl t=>⟨d' l t,I⟩) n' (λl u s' t=>?_) (λt'=>I) (λk o'=>aE (X k) id λs=>s.1.trans<|R.q k o') λM l r u=>?_
  .refine ?_;haveI g':∀{p:Prop}[jW p]{n:O},n<=if p then n+1 else n:=λ{p _ n}=>aE (eo p) (λs=>J (a9 s)<|cO n) λs=>J (bf s)<|b4 n;induction l using cN.casesOn with|b=>exact g'|a=>exact g'|e=>exact b4 _|f=>exact b4 _
  .cases Q l t with|c s _ _ _=>exact s|b s=>subst s;exact aA ((a9 ⟨I,I⟩).symm.trans u)<|qT _|a i s=>subst s;exact aA ((a9 ⟨I,I⟩).symm.trans u)<|qT _|f s=>exact J s I
  .have T:(dg c.a o a x T').h l:=⟨r,u⟩;cases Q l T with|c s n P _=>exact a1 ⟨J s<|P r u,e' l T n⟩|b s=>subst s;exact J mo<|aK<|G M r u|a i s=>haveI:=e' l T<|J s ar;subst s;rw[lu]at this⊢;exact a1 ⟨l' i r u,this⟩|f s=>subst s;exact az (bE<|(a9 W).symm.trans u)<|aK<|dr _ d E.g<|i'.i M h' (λi p'=>DG λz=>p' z.2) k'<|c' M
 exact aP S.1 S.2<|c'<|S.2.a R<|cn c
theorem bm.k:∀{r:U aZ},Z s=Z r->(∀(t:O)v q,s[t]?=Y v->r[t]?=Y q->aY z v q)->bm z s r:=by induction s with|nil=>exactλ{r}h e=>J (iN.mp h.symm) .d|cons v s f=>intro r h e;induction r using gn with|nil=>exact aC h ar|cons q r=>exact .b (e 0 v q I I)<|f (S3 h) λt v q a g=>e (t+1) v q a g
theorem Km{y:av}:∀{l:U V}{f:U (U V)},y.t l=Y f->l=(eL l).map V.e/\Z (eL l)=Z f/\∀(i j:O),(eL l)[i]?=Y j->∃W,f[i]?=Y W/\y.a j=Y (.e W)/\dA W:=by intro l;induction l with|nil=>intro f h;exact az (bE h)<|aP I I λi j c=>aC ((Su).symm.trans c) ar|cons v r g=>intro f h;refine ay (wp h) λk m h=>(J m (ay (mu h) λn z h=>(ay (xM.mp h) λX o h=>(aM (fi h) λT h=>(az (bE h) (b6 (g o) λa b d=>(aP (aW (V.e k::·) a) (aW (·+1) b) λi j c=>?_)))))));induction i with|zero=>exact az (bE c)<|bO n I z T|succ i=>exact d i j c
structure hE(B:bZ)(c:bl)(v h:V)(A:av)(N:bB)(b:aZ)(f:bl):Prop where
 d:f.d=N
 a:f.a=A
 j:aV B f
 i:a8 ce c f
 e:aY f h b
theorem hE.l(h:aV B f/\a8 ce g f/\aY f k m)(x:f.d=X)(n:f.a=A):∃f,hE B g v k A X m f:=⟨f,x,n,h.1,h.2.1,h.2.2⟩
inductive gK(y:av)(o a:O):V->V->av->Prop|a{k:O}{l:U V}{x:U (U V)}(z:y.a k=Y (.e l))(F:y.t l=Y x)(f:(b0 (k::eL l))):gK y o a (.e k) (.j (.b o a)<|y.e (.b o a)+1)<|dg y o a (.a x)<|i8 y.a<|k::eL l|c{k:O}{l:U V}(z:y.a k=Y (.e l)):gK y o a (.e k) (.j (.b o a)<|y.e (.b o a)+1)<|dg y o a (.c l)<|aw y.a k au|e{v:V}(h:v≠.d):gK y o a v v<|dg y o a (.e v) y.a
theorem gK.g{y A q:av}(h:gK y i j v w q)(b:Y (w,q)=Y (k,A)):gK y i j v k A:=by cases b;exact h
theorem gK.f{y A:av}(P:v≠.d)(b:Y (v,dg y i j (.e v) y.a)=Y (k,A)):gK y i j v k A:=(gK.e P).g b
theorem gK.h{y A:av}(d:y.l i j (.e k)=Y (m,A)):gK y i j (.e k) m A:=by refine bb ?_;intro p;refine ay (mu (fi d).2) λl z d=>?_;generalize mm i j=b at d;induction b with|true=>exact ay (xM.mp d) λx F d=>aM (fi d) λf d=>(gK.a z F f).g d|false=>exact(gK.c z).g (fi d).2
theorem gK.l{y A:av}(b:y.l i m v=Y (p,A)):gK y i m v p A:=by induction v using V.casesOn with|e f=>exact .h b|d|j|k=>exact aC (fi b).2 ar|_=>exact gK.f ar (fi b).2
end
section
variable{c:bl}{o a:O}{b:aZ}{N:bB}{H:U iV}{n d:O}{hsh:am}{tk:eV}
mutual
structure nX(B:bZ)(c:bl)(o a:O)(b:aZ)(N:bB)(H:U iV)(n d:O)(hsh:am)(tk:eV):Prop where
 j:aV B c
 e:a<fY
 f:c.a.f o=an
 g:c.d.heap.get? (c.b<|.f o)=Y (kX H n)
 i:iY c H λa=>c.a.j o a
 k:mO c.d N (c.b<|.f o)<|kX (hM (eK a) hsh (fz (eK a) tk) b H) d
theorem nX.h(D:nX B c o a b N H n d hsh tk)(C:c.a.g (.e l)=Y m):c.b (.e l)≠c.b (.f o):=λz=>aC (D.j.inj (.e l) (.f o) ⟨_,C⟩ ⟨.a λa=>c.a.j o a,a9 D.f⟩ z) ar
theorem Ow(D:nX B c o a b N H n d hsh tk)(m:aY c v b)(h:v≠.d):∃f,hE B c v v (dg c.a o a (.e v) c.a.a) N b f:=by haveI l:∀y,(dg c.a o a (.e v) c.a.a).g (.b o a)=Y y->bW:=λy k=>aC (w2.symm.trans k) ar;have s:∀i y,(dg c.a o a (.e v) c.a.a).g (.a o a i)=Y y->bW:=λi y k=>aC (w3.symm.trans k) ar;haveI:=wF (p:=.b o a) (q:=λi=>.a o a i) D.j D.e D.f D.g D.i D.k (λj=>a1<|aP I ar ar) (λX=>bH X λy k=>be (l y k)) (λi⟨y,k⟩=>be (s i y k)) (λi⟨y,k⟩=>be (s i y k)) (λi _ X=>bH X λy k=>be (s i y k)) (J lB h) (λM=>J lB<|m.f M) (λM y k=>be (l y k)) λi y k=>be (s i y k);rw[lB]at this;exact hE.l this I I
theorem Op(D:nX B c o a b N H n d hsh tk)(r:aY c (.e k) b)(t:c.a.a k=Y (.e l)):∃f,hE B c (.e k) (.j (.b o a)<|c.a.e (.b o a)+1) (dg c.a o a (.c l)<|aw c.a.a k au) N b f:=by revert H n hsh tk D;revert B c o a b N d k l;refine@qt _<|eZ @(letI B:=_;letI c:=_;letI o:=_;letI a:=_;letI b:=_;letI N:=_;letI d:=_;letI k:=_;letI l:=_;(e2 ?_:eD _ _ _ _ _ _ B c o a b N d k l));intros;haveI C:=i7 t;have s:∀i y,(dg c.a o a (.c l)<|aw c.a.a k au).g (.a o a i)=Y y->bW:=λi y m=>aC (w3.symm.trans m) ar;haveI:=wF (T':=aw c.a.a k au) D.j D.e D.f D.g D.i D.k (λu=>aE (eo<|u=k) (λh=>aK<|J h<|kH _ _ _) λh=>a1<|aP (ji _ _ h) (λz=>h (by cases z;rfl)) ar) (λq=>lk ⟨_,C⟩ k I) (λi⟨y,m⟩=>be (s i y m)) (λi⟨y,m⟩=>be (s i y m)) (λi _ X=>bH X λy m=>be (s i y m)) (J lB ar) (λM=>qH r λW A p=>J lB<|.j bk (jt (a9 ⟨I,I⟩).symm) λq q=>(p ⟨_,C⟩).trans<|aW c.b mo.symm:c6 c (c.e o a (.c l) (aw c.a.a k au) (.e k) (λi=>.a o a i) N)->aY (c.e o a (.c l) (aw c.a.a k au) (.e k) (λi=>.a o a i) N) ((dg c.a o a (.c l)<|aw c.a.a k au).j o a) b) (λM y m=>by cases w2.symm.trans m;exact cF (D.j.g _ _ C) λv d A p=>dr v d (D.k.i _ _ (D.h C) A)<|p.f M) λi y m=>be (s i y m);rw[lB]at this;exact hE.l this I I
theorem Oq(D:nX B c o a b N H n d hsh tk)(a':aY c (.e k) b)(b':c.a.a k=Y (.e l))(c':c.a.t l=Y f)(P:(b0 (k::eL l))):∃m,hE B c (.e k) (.j (.b o a)<|c.a.e (.b o a)+1) (dg c.a o a (.a f)<|i8 c.a.a<|k::eL l) N b m:=by
 revert H n hsh tk D;revert B c o a b N d k l f;refine@je _<|eZ @(letI B:=_;letI c:=_;letI o:=_;letI a:=_;letI b:=_;letI N:=_;letI d:=_;letI k:=_;letI l:=_;letI f:=_;(e2 ?_:eD _ _ _ _ _ B c o a b N d k l f));intros;haveI C:=i7 b';refine b6 (Km c') λR E S=>?_;let q:O->cN:=λi=>match(eL l)[i]?with|Y r=>.e r|au=>.a o a i;have u:∀{i r},(eL l)[i]?=Y r->q i=.e r:=λp=>by simp only[q];rw[p]
 have T:∀i r,.e r=q i->(eL l)[i]?=Y r:=λi r p=>by simp only[q]at p;cases h:(eL l)[i]?with|none=>replace p:=h▸p;exact aC p ar|some x=>replace p:=h▸p;injection p with p;exact J p I
 have w:∀{i y},(dg c.a o a (.a f)<|i8 c.a.a<|k::eL l).g (.a o a i)=Y y->∃r W,(eL l)[i]?=Y r/\f[i]?=Y W/\c.a.a r=Y (.e W)/\y=.e W:=λ{i y}p=>by refine bb ?_;intro n';refine ay (tR.mp<|w3.symm.trans p) λW F d'=>?_;subst d';exact ch (S i _<|cl<|J E<|of F) λe' A t s=>by cases bx F.symm A;exact h3 _ _ (cl<|J E<|of F) F t I
 haveI:=wF (T':=i8 c.a.a<|k::eL l) D.j D.e D.f D.g D.i D.k (λr=>aE (eo<|r∈k::eL l) (λh=>aK<|a9 h) λh=>a1<|aP (bf h) (λz=>h (by cases z;exact bu ..)) λi z=>h<|cm _<|dZ<|T i r z) (λs=>lk ⟨_,C⟩ k I) (λi G=>bH G λy p=>oS (w p) λr W A t Q s=>J (u A)<|lk ⟨_,i7 Q⟩ r I) (λi G h=>bH G λy p=>cF (w p) λr W A s=>(dO.mp P).1<|dZ<|T i k h.symm) (λi o'⟨y,p⟩⟨p',f'⟩h=>cF (w p) λr W A s=>cF (w f') λq' e' v s=>by replace h:=(u v)▸(u A)▸h;injection h with h;subst h;exact(List.getElem?_inj (of A) (dO.mp P).2).mp<|bx A v.symm) (J lB ar) (λg'=>qH a' λh' A t=>J lB<|.j bk (jt (a9 ⟨I,I⟩).symm) λs s=>(t ⟨_,C⟩).trans<|aW c.b mo.symm:c6 c (c.e o a (.a f) (i8 c.a.a<|k::eL l) (.e k) q N)->aY (c.e o a (.a f) (i8 c.a.a<|k::eL l) (.e k) q N) ((dg c.a o a (.a f)<|i8 c.a.a<|k::eL l).j o a) b) (λg' y p=>by
  cases w2.symm.trans p;refine cF (D.j.g _ _ C) λi' d A t=>dr i' d (D.k.i _ _ (D.h C) A)<|bm.k ?_ λi r' x X j'=>?_
  .rw[<-t.a,R,bv,bv,ec,E]
  .have M:i<Z f:=by haveI:=of X;rwa[bv,ec]at this
   obtain⟨r,K⟩:∃r,(eL l)[i]?=Y r:=⟨_,cl<|J E M⟩;refine ch (S i _ K) λW Q L s=>ay (t.g<|(aW (λl:U V=>l[i]?) R).trans<|fL.trans<|aW (xN V.e) K) λs' k' l'=>?_;cases bx j'.symm k';replace X:=(o0 M)▸fL▸X;exact az (bE X)<|qH l' λh' s m'=>.j bk (b4 _) λs s=>(m' ⟨_,i7 L⟩).trans<|aW c.b ((lu).trans<|u K).symm) λi y p=>oS (w p) λr W A t Q L=>J (u A)<|J L<|i7 Q;rw[lB]at this;exact hE.l this I I
end
end
mutual
theorem Oh(X:B.d.In B.c)(K:i0 B.d)(R:aV B k)(T:i9 j q=an)(M:aY k v r)(L:k.a.l j q v=Y (u,w)):bc (a7 B.b B.a) A (setAttr (aN<|k.c j) (eK q) r) (λz s=>∃C,hE B k v u w s r C) bP k.d:=by
 have x:=(fi L).1;refine dd (R.y x) λH n P y Q=>?_;haveI S:Z (hM (eK q) (rd B.a.params<|eK q) (fz (eK q)<|cA k.d+1) r H)<=1000:=by
  rw[CK];haveI:=y.a;haveI N:((b2 fY).countP λi=>(k.a.j j i).m)<=fY:=by haveI:=Sk (p:=λi=>(k.a.j j i).m) (l:=b2 fY);rwa[ec]at this
  split<;>(first|exact(aq [1,1,1,1] I:ap 3 0 [.g .a .b,.g .b .f,.a .f<|.c 34] (.g .a<|.c 1000)) this N (I:fY=34)|exact(aq [1,1,1,1] I:ap 3 0 [.g .a .b,.g .b .f,.a .f<|.c 34] (.g (.h .a)<|.c 1000)) this N (I:fY=34))
 refine Ok (λW j E=>R.d _ _<|X W j E) Q (K.d j) (K.b j) (K.i j q T) (K.l j) (Ck (c:=k) (f:=λz=>.d) λE x=>dd (y.g E x) λi t _ F _=>fu i t F) S λs o=>?_;have D:nX B k j q r s H n _ _ _:=⟨R,vT T,x,P,y,o⟩;induction(gK.l L)with|a G a' b'=>exact Oq D M G a' b'|c G=>exact Op D M G|e F=>exact Ow D M F
end
end
mutual
def hG(o a i k:O)(l:cN):cN:=if l=.a o a i then .e k else l
theorem oC:hG c d f g (.a c d f)=.e g:=a9 I
def gU(y:av)(o a:O)(ll':U (U V))(i k:O):av:=⟨dh y.c o a<|.a ll',y.f,ff y.e<|.a o a i,aw y.a k au,y.d,y.m⟩
def ly(g:cN->O)(o a n:O):U V:=(b2 n).map λj=>V.j (.a o a j)<|g<|.a o a j
theorem qf{α:Type}{l:U α}{x:α}(h:l[c]?=Y x):c<Z l:=of h
end
section
variable{y:av}{o a i k:O}{b ll':U (U V)}
mutual
theorem Qo(h:¬(c=o/\f=a)):(gU y o a ll' i k).g (.b c f)=y.g (.b c f):=(J (ny _ _ h)<|aW (λr=>((y.c c f).d r).map b8.e)<|jy λj=>aW (V.j<|.a c f j) (bf λe=>by cases e;exact h ⟨I,I⟩):((dh y.c o a (.a ll') c f).d λj=>V.j (.a c f j)<|ff y.e (.a o a i)<|.a c f j).map b8.e=_)
theorem Qq(L:y.c o a=.a b)(R:∀j,j≠i->ll'[j]?=b[j]?)(h:¬(c=o/\d=a/\j=i)):(gU y o a ll' i k).g (.a c d j)=y.g (.a c d j):=by
 refine(?_:((dh y.c o a (.a ll') c d).b λb=>(b[j]?).map b8.e)=_);refine aE (eo<|c=o/\d=a) (λq=>?_) λq=>J (ny _ _ q) I
 .rw[q.1,q.2,kG,pW L,<-R j λe=>h<|aP q.1 q.2 e];rfl
theorem Qm(L:y.c o a=.a b):(gU y o a ll' i k).j c d=y.j c d:=by
 refine(J (show ff y.e (.a o a i) (.b c d)=y.e (.b c d)from bf ar) ?_:(dh y.c o a (.a ll') c d).q (.j (.b c d)<|ff y.e (.a o a i)<|.b c d)=_);refine aE (eo<|c=o/\d=a) (λe=>?_) λe=>J (ny _ _ e) I
 .rw[e.1,e.2,kG];exact(aW (λf:cd=>f.q<|.j (.b o a)<|y.e<|.b o a) L).symm
theorem Qn(L:y.c o a=.a b):(gU y o a ll' i k).g (.f c)=y.g (.f c):=aW (λd=>if y.f c=an then Y (b8.a d)else au)<|jy λp=>Qm L
theorem Qs(h:j≠k):(gU y o a ll' i k).g (.e j)=y.g (.e j):=aW (λo=>iG o (λl=>Y<|b8.e l) λl=>Y<|b8.b l)<|ji _ _ h
theorem Qp(d:(gU y o a ll' i k).g (.b o a)=Y c):c=.e (ly (ff y.e<|.a o a i) o a (Z ll')):=(bE<|(pV<|kG ..).symm.trans d).symm
theorem Qr(z:ll'[i]?=Y l):(gU y o a ll' i k).g (.a o a i)=Y (.e l):=(pW<|kG ..).trans<|aW (xN b8.e) z
inductive FS(y A:av)(o a i k:O)(l:cN):Prop|a(h:l=.a o a i)|b(h:l=.b o a)|c(h:hG o a i k l=l)(n:l≠.b o a)(v:l≠.e k)(f:∀d,A.g l=Y d->y.g l=Y d)
theorem D9(L:y.c o a=.a b)(R:∀j,j≠i->ll'[j]?=b[j]?):∀l,(gU y o a ll' i k).h l->FS y (gU y o a ll' i k) o a i k l|.b m p,_=>aE (eo<|m=o/\p=a) (λd=>.b<|az d.1<|d.2▸I) λd=>.c (bf ar) (λg=>d (by cases g;exact⟨I,I⟩)) ar λn g=>(Qo d).symm.trans g|.a m p j,_=>aE (eo<|m=o/\p=a/\j=i) (λd=>.a<|az d.1<|az d.2.1<|d.2.2▸I) λd=>.c (bf λg=>d (by cases g;exact aP I I I)) ar ar λn g=>(Qq L R d).symm.trans g|.e j,⟨n,g⟩=>aE (eo<|j=k) (λd=>aC ((vG (y:=gU y o a ll' i k)<|az d<|kH _ _ _).symm.trans g) ar) λd=>.c (bf ar) ar (λg=>d (by cases g;rfl)) λn g=>(Qs d).symm.trans g|.f m,_=>.c (bf ar) ar ar λn g=>(Qn L).symm.trans g
end
end
section
variable{B:bZ}
mutual
def bl.f(c:bl)(o a:O)(ll':U (U V))(i k:O)(X:bB):bl:=⟨λl=>c.b<|hG o a i k l,c.c,gU c.a o a ll' i k,X⟩
theorem CR{g:bl}(R:aV B g){o a i k:O}{b ll':U (U V)}{l:U V}{X:bB}{u s:cQ aZ}{n N:O}{w:aZ}(P:g.a.c o a=.a b)(h':g.a.a k=Y (.e l))(i':aY g (.e k) w)(v':g.d.heap.get? (g.b<|.b o a)=Y (h8 u n))(j':bm g (ly g.a.e o a (Z b)) (cx u))(Q:∀d,d≠i->ll'[d]?=b[d]?)(k':ll'[i]?=Y l)(l':aX s=Z ll')(m':s[i]?=Y w)(n':∀d,d≠i->s[d]?=u[d]?)(H:mO g.d X (g.b<|.b o a) (h8 s N)):aV B (g.f o a ll' i k X)/\a8 ce g (g.f o a ll' i k X)/\aY (g.f o a ll' i k X) (.j (.a o a i)<|g.a.e (.a o a i)+1) w:=by
 revert R i n N w;revert B g o a k b ll' l X u s;refine@kx _<|eZ @(letI B:=_;letI g:=_;letI o:=_;letI a:=_;letI k:=_;letI b:=_;letI ll':=_;letI l:=_;letI X:=_;letI u:=_;letI s:=_;(e2 ?_:eD _ _ _ _ B g o a k b ll' l X u s));intros;haveI T:=i7 h';have v:g.a.h<|.b o a:=⟨_,pV P⟩;have d':w=aN (g.b<|.e k):=by cases i' with|e A x=>exact J (x ⟨_,T⟩) I
 have e':∀p,(gU g.a o a ll' i k).h p->g.a.h (hG o a i k p):=λp C=>by cases(D9 P Q) p C with|a r=>exact J r<|J oC ⟨_,T⟩|b r=>exact J r<|J (show hG o a i k (.b o a)=.b o a from bf ar) v|c r _ _ z=>exact J r<|C.imp z
 have S:∀p,p≠.a o a i->hG o a i k p=p:=λp r=>bf r;have o':∀D W,(gU g.a o a ll' i k).h D->(gU g.a o a ll' i k).h W->hG o a i k D=hG o a i k W->D=W:=λD W A x m=>by
  have f':∀p,(gU g.a o a ll' i k).h p->p≠.e k:=λp p' q=>bH p' λy m=>by rw[q]at m;exact aC ((vG<|kH _ _ _).symm.trans m) ar
  by_cases E:D=.a o a i<;>by_cases F:W=.a o a i
  .exact bx E F.symm
  .rw[E,oC,S _ F]at m;exact aA m.symm<|f' _ x
  .rw[F,oC,S _ E]at m;exact aA m<|f' _ A
  .rw[S _ E,S _ F]at m;exact m
 haveI g':aV B (g.f o a ll' i k X)/\a8 ce g (g.f o a ll' i k X):=by
  refine R.z (λl=>g.b<|hG o a i k l) (gU g.a o a ll' i k) X (g.b<|.b o a) (hG o a i k) (aF _ v I) H.i ⟨_,H.g⟩ H.j H.f I I (λl=>aE (eo<|l=.a o a i) (λr=>aH (cO _)<|jt (a9 r:ff g.a.e (.a o a i) l=_).symm) λr=>jt (bf r).symm) (λd=>bf λm=>aC m ar) (λl C=>⟨e' l C,I⟩) o' (λl m w' C=>S l λq=>by haveI m:=m;replace m:=q▸m;exact aA ((a9 I).symm.trans m)<|qT _) (λq'=>J (S (.f q') ar) I) (λd G=>by
   refine(?_:aw g.a.a k au d=au);by_cases q:d=k
   .exact az q<|kH _ _ _
   .exact J (ji _ _ q)<|R.q d G) λr' p y m=>(?_:fG B (g.f o a ll' i k X) (g.b<|hG o a i k p) y\/(g.a.g (hG o a i k p)=Y y/\g.b (hG o a i k p)≠g.b (.b o a)));have M:hG o a i k p≠.b o a->g.b (hG o a i k p)≠g.b (.b o a):=λr a'=>r<|R.inj _ _ (e' p ⟨y,m⟩) v a';cases(D9 P Q) p ⟨y,m⟩with
  |c r n _ z=>exact a1 ⟨J r<|z y m,M<|J r n⟩
  |a r=>subst r;rw[oC]at M⊢;exact a1 ⟨bx T<|(Qr k').symm.trans m,M ar⟩
  |b r=>
   subst r;refine J (S (.b o a) ar)<|J (Qp m)<|aK<|dr s N H.g<|bm.k (by simp[ly,l']) λd x' s' K t=>?_;have G:d<Z ll':=by simpa[ly]using(qf K)
   unfold ly at K;rw[fL,o0 G]at K;obtain rfl:=bE K;replace t:=hI▸t;by_cases L:d=i
   .subst L;replace t:=m'▸t;exact az (bE t)<|J d'<|.j bk (b4 _) λb' b'=>(aW g.b oC).symm
   .replace t:=(n' d L)▸t;refine(J (show ff g.a.e (.a o a i) (.a o a d)=g.a.e (.a o a d)from bf (λa'=>by cases a';exact L I)) ?_:aY _ (.j (.a o a d)<|ff g.a.e (.a o a i)<|.a o a d) s');haveI t':d<Z b:=by haveI A:=Q d L;rw[cl G]at A;exact qf A.symm
    refine ay (j'.g (by delta ly;exact J fL<|J (o0 t') I)) λy' c' u'=>?_;replace c':=t▸hI▸c';exact J (bE c')<|u'.f r'
 refine aP g'.1 g'.2<|J d'<|.j bk (?_:_<=ff g.a.e (.a o a i) (.a o a i)) λb' b'=>(aW g.b oC).symm;delta ff;exact J (a9 I)<|b4 _
end
end
section
variable{prog:g3}{w:fB}{A:cR}{E:aZ->bB->Prop}{s:bB}
mutual
theorem Lm(f:cQ aZ->cQ aZ)(X:cQ aZ)(n:O):∃v,e8 f (h8 X n)=h8 (f X) v:=⟨_,I⟩
theorem oi(h:s.heap.get? l=Y (h8 X n))(f:cQ aZ->cQ aZ)(D:O):∃v,mO s {s with heap:=s.heap.update l<|e8 f,toks:=D} l (h8 (f X) v):=by refine bH (Lm f X n) λv e=>?_;haveI:=q5 (e8 f) h<|J e I;rw[e]at this;exact⟨v,this,λb y a z=>(Tt _ _<|f8 a).trans z,I,I⟩
theorem C0{l:aU}{d:cQ aZ}{n:O}{k:am}{t:eV}{v:aZ}{Q:cI->bB->Prop}(x:s.heap.get? l=Y (h8 d n))(q:0<=k)(h:k<2^63)(i:k<aX d)(m:∀X c,mO s X l (h8 (d.setIfInBounds (bM k) v) c)->Q () X):bc (a7 prog w) A (setItem (aN l) (cS k t) v) Q E s:=by revert E k;revert prog w A s l d n t v Q;refine@je _<|eZ @(letI prog:=_;letI w:=_;letI A:=_;letI s:=_;letI l:=_;letI d:=_;letI n:=_;letI t:=_;letI v:=_;letI Q:=_;(e2 ?_:eD _ _ _ _ _ prog w A s l d n t v Q));intros;refine eh<|aS<|wpAny_sequenceKey (show s.heap.IsList l d from d8 _ x I _ I).typeIs as<|aS<|Ft (show s.heap.IsList l d from d8 _ x I _ I).typeIs TI<|rF TI (show s.heap.IsList l d from d8 _ x I _ I).typeIs entry_list_setitem (aS<|wpAny_listSubscript_int (fitsIndex_of q h) ?_:bc _ _ (Um (cS k t)>>=_) _ _ s)<|args_list_setitem _ _ _;obtain⟨f,rfl⟩:=tD q;haveI o:f<aX d:=(aq [1,1] I:ap 2 0 [.b .g .j] (.e .a .b)) i;refine aS<|aS<|wpAny_seqItemAt x I<|bC<|J (kL o) ?_;obtain⟨c,H⟩:=oi x (·.setIfInBounds f v) (cA s);exact aS<|wpAny_setSeqItemAt x I<|bC<|aF dL I<|bC<|m _ c H
end
end
section
variable{B:bZ}
mutual
theorem aV.F(R:aV B x)(d:x.a.c o L=.a M):∃X N,x.d.heap.get? (x.b<|.b o L)=Y (h8 X N)/\bm x (ly x.a.e o L (Z M)) (cx X):=R.g _ _<|pV d
theorem fs.H(h:fs c e n):(e.any λp=>p.1==j)=n.any λp=>a0 (p.1=j):=by induction h with|d=>rfl|b _ _ a=>exact congr (aW or I) a
theorem fs.i(M:c6 c k)(P:aY c v x)(h:fs c l n):fs k (l.map λp=>if p.1=e then(p.1,v)else p)<|n.map λp=>if p.1=e then(p.1,x)else p:=by
 induction h with
 |d=>exact .d
 |@b j _ _ _ _ h t a=>
  refine J iO<|J iO ?_;by_cases q:j=e
  .exact J (a9 q)<|J (a9 q)<|.b (P.f M) a
  .exact J (bf q)<|J (bf q)<|.b (h.f M) a
theorem fs.u(M:c6 c e)(P:aY c v x)(h:fs c j n):fs e (j++[(k,v)])<|n++[(k,x)]:=by induction h with|d=>exact .b (P.f M) .d|b h _ a=>exact .b (h.f M) a
theorem hE.b(P:aY c v g)(h:aV B ⟨k,c.c,f,X⟩/\a8 ce c ⟨k,c.c,f,X⟩)(R:aV B c):∃m,hE B c v v f X g m:=⟨_,I,I,h.1,h.2,P.i R (cn c) h.2⟩
@[elab_as_elim]theorem BU{c:bl}(R:aV B c){v:V}{x:aZ}{l:U V}{P:aZ->Prop}(b:aY c v x)(h:c.a.i v=Y l)(k:∀a X n,c.d.heap.get? a=Y ⟨bq "list",au,c9 X n,#[]⟩->bm c l (cx X)->aY c v (aN a)->P (aN a)):P x:=hw (R.e b h) λa X n e A i p=>J e<|k a X n A i<|az e b
theorem ex{X:cQ aZ}(h:bm c l (cx X)):aX X=Z l:=J h.a I
def su(d:U (am×V))(i:am)(v:V):U<|am×V:=if d.any (λp=>p.1==i)then d.map (λp=>if p.1=i then(p.1,v)else p)else d++[(i,v)]
theorem fs.a(M:c6 c k)(P:aY c v x)(h:fs c e n):fs k (su e j v)<|stored n j x:=by
 delta stored su;refine az h.H ?_;by_cases q:(e.any λp=>p.1==j)=an
 .exact J (a9 q)<|J (a9 q)<|h.i M P
 .exact J (bf q)<|J (bf q)<|h.u M P
inductive gJ(N:av)(x:V)(i:am)(v:V):V->av->Prop|f{l:U V}{A:av}(n:N.i x=Y l)(q:0<=i)(h:i<Z l)(P:v.f)(p:N.p x (l.set (bM i) v)=Y A):gJ N x i v v A|b{k:O}{d:U (am×V)}(m:x=.e k)(z:N.a k=Y (.b d))(P:v.f)(r:Z d<bi):gJ N x i v v {N with a:=aw N.a k<|Y<|.b<|su d i v}|a{o c k:O}{g:U (U V)}{l:U V}(m:x=.j (.b o c) (N.e<|.b o c))(s:v=.e k)(L:N.c o c=.a g)(z:N.a k=Y (.e l))(q:0<=i)(h:i<Z g):gJ N x i v (.j (.a o c (bM i))<|N.e (.a o c (bM i))+1)<|gU N o c (g.set (bM i) l) (bM i) k
theorem gJ.g{N A q:av}(h:gJ N x i v c q)(e:Y (c,q)=Y (d,A)):gJ N x i v d A:=by cases e;exact h
theorem CL{N:av}(h:N.c o a=.c l):N.p (.j (.b o a) g) x=Y {N with c:=dh N.c o a<|.c x}:=aW (λf:cd=>f.f (λp=>Y<|av.mk (dh N.c o a<|.c x) N.f N.e N.a N.d N.m) λp=>au) h
theorem NG{N:av}(h:N.c o b=.a x):N.p (.j (.a o b d) g) e=Y {N with c:=dh N.c o b<|.a<|x.set d e}:=aW (λf:cd=>f.b λx=>Y<|av.mk (dh N.c o b<|.a<|x.set d e) N.f N.e N.a N.d N.m) h
theorem BP{N:av}(h:N.c o d=.c l):N.i (.j (.b o d)<|N.e<|.b o d)=Y l:=(a9 I).trans<|aW (λf:cd=>f.d λi=>V.j (.a o d i)<|N.e<|.a o d i) h
theorem KT{N:av}(h:N.c o c=.a x):N.i (.j (.a o c b)<|N.e<|.a o c b)=x[b]?:=(a9 I).trans<|aW (λf:cd=>f.b λx=>x[b]?) h
theorem gJ.l{N A:av}(h:N.s c i v=Y (m,A)):gJ N c i v m A:=by
 revert A c v m i;revert N;refine@je _<|jJ @(letI N:=_;(jT ?_:is _ _ _ _ _ N));intros;induction c using V.casesOn with
 |e k=>exact aE (Q7 h) (λh=>ay h λp z h=>aM (fi h) λn h=>(gJ.f (x:=.e k) (aW (λo=>jU o Y) z) n.1 n.2.1 n.2.2 I).g h) λh=>ay h λd z h=>aM (fi h) λn h=>(gJ.b I z n.1 n.2).g h
 |j M y=>induction M with|b o s=>exact aM (fi h) λq r=>J q<|aE (wo r) (λh=>ay h λp L h=>aM (fi h) λn h=>(gJ.f (BP L) n.1 n.2.1 n.2.2<|CL L).g h) λh=>ay h λt L h=>ay (wp h) λk u h=>ay (mu h) λp z h=>aM (fi h) λn h=>(gJ.a I u L z n.1 n.2.1).g h|a o s B=>exact aM (fi h) λq r=>J q<|ay (wq r) λt L h=>ay (xM.mp h) λp w h=>aM (fi h) λn h=>(gJ.f ((KT L).trans w) n.1 n.2.1 n.2.2<|NG L).g h|_=>exact aC h ar
 |_=>exact aC h ar
theorem Om(c':B.e)(R:aV B c)(w:aY c x m)(P:aY c v g)(S:i<2^62)(d':c.a.s x i v=Y (q,r)):bc (a7 B.b B.a) u (setItem m (cS i t) g) (λd X=>∃y,hE B c v q r X g y) bP c.d:=by
 revert c' u x v q t m g r;revert B c i;refine@hs _<|jJ @(letI B:=_;letI c:=_;letI i:=_;(jT ?_:is _ _ _ B c i));intros;induction gJ.l d' with
 |f T D E _ e'=>exact BU R w T λW h f' z s w=>C0 z D (r6 S) (zn E<|ex s) λX g' H=>hE.b P (R.p w T e' H<|J Array.toList_setIfInBounds<|s.e P) R
 |@b n p F G r' A=>
  refine bb ?_;intro s';subst F;obtain⟨W,M,rfl,z,s,t',K,h',rfl,i'⟩:=R.v w (aW (λo=>w9 o Y) G);injection K with K;subst K;haveI A:Z M=Z p:=by haveI:=aW Z s.g;rwa[bv,bv]at this
  refine wpAny_setItem_pairs (k:=i) (by simp[ga,ph]) z (λu' a' j'=>hE.b P (R.i _ _ (.e n) (.b<|su p i v) ⟨_,h'⟩ (λk' o l' L=>(j'.2 k' l').trans L) I I I I I (λl m'=>?_) (AR<|kH _ _ _) (λj C=>(ji _ _ (by exact zo w.s.1 C)).trans<|R.q j C) (λn'=>bO (stored M i g) a' (s.a n' P) i')<|gi a' λo d d L d=>⟨o,L⟩) R)<|zx ‹_› A (I:lP=bi)
  .induction l with|e j=>exact aW (λo=>iG o (λl=>Y<|b8.e l) λl=>Y<|b8.b l)<|ji _ _ λo'=>m'<|az o' I|_=>rfl
 |@a o W n b' l F p' N G D E=>
  subst F p';refine cF (R.F N) λh f' z s=>CQ w λv' d d q'=>J (q' I ⟨_,pV N⟩) ?_;have Q:aX h=Z b':=by refine J (ex s) ?_;simp[ly]
  exact C0 z D (r6 S) (zn E Q) λX g' H=>hE.l (CR R N G P z s (λj C=>jo<|f8 C) (jp<|n3 E<|eU<|l2 D) (by simp[Q]) (Array.getElem?_setIfInBounds_self_of_lt<|pE Q (n3 E<|eU<|l2 D:bM i<Z b')) (λj C=>Array.getElem?_setIfInBounds_ne<|f8 C) H) I I
end
end
mutual
def hq(e:cC):ba:=!jr e.ctorIdx 16
def cr(e:cC):ba:=!jr e.ctorIdx 22
def ne(e:cC):ba:=jr e.ctorIdx 26
theorem JS{p:Prop}(h:ax=an):p:=aC h ar
theorem oM{p:Prop}(h:an=ax):p:=aC h ar
theorem f1(h:cr e=an):g6 (e::m) T=(ax,dU e T)::g6 m T:=by induction e using es<;>first|rfl|cases h
theorem vq(h:hq o=an):t5 o C T b=b:=by revert h;induction o using es<;>first|exact(λp=>I:an=an->b=b)|exact JS
theorem oD{S:il}{env:dF}{Q:U cC}:Q.all cr=an->(hN S<|g6 Q env).any (·.1)=ax/\(hN S<|g6 Q env).all (!·.1)=an:=by induction Q with|nil=>exactλp=>⟨I,I⟩|cons e r d=>exactλh=>aM (eS.mp h) λA i=>(J (f1 A) (aM (d i) λa b=>⟨by refine(?_:(ax||_)=ax);rw[Ej];exact a,by refine(?_:(an&&(hN S<|g6 r env).all (!·.1))=an);rw[RZ];exact b⟩))
end
section
variable{M:Model}{A:cR}{E:aZ->bB->Prop}{s:bB}{env:dF}
mutual
theorem s0(z:hq o=an)(a:b.all cr=an)(d:Z b<30)(l:(c.endLine==S.line)=an)(h:bc M A (dU o env) (λe j=>∀k,bc M A (t8 e i k) (λg H=>bc M A (ry S g.1 g.2 (hN S<|g6 b env) []) Q E H) E j) E s):bc M A (dU (cz (dT o i c) b [] S) env) Q E s:=by
 refine(J (vq z)<|aS<|c3 h (λe j m=>aS<|g7 ?_) λp p x=>x:bc M A (do
  let e<-t5 o i env (dU o env)
  nP c.atName
  ub o i c S env e (Z b+Z ([]:U q7)) (hN S<|g6 b env) (mG S<|mH [] env)) Q E s);haveI T:rC (Z b+Z ([]:U q7)) (hN S<|g6 b env) (mG S<|mH [] env)=an:=by delta rC;refine J (oD a).2 (?_:(an&&an&&a0 (Z b+0+0<30))=an);simp[d]
 delta ub;refine J T<|aS<|eh<|c3 (m _) (λg H n=>?_) λp p x=>x;obtain⟨f,q⟩:=g;delta Fj;exact(J l I:(!an||c.endLine==S.line)=an).symm▸(a9 I).symm▸(aS<|bC n)
end
end
section
variable{B:bZ}{a:bT}{z:O->a3 bg}{d:O}
mutual
theorem hU.e(h:hU B a z d j m){K:V->av->Prop}(n:da f d)(F:cv a T L c)(R:aV B c)(t:bA (aO z d) j L K c.a)(k:∀b l i,aV B b->cv a T L b->a8 ce c b->bm b l i->K (.g l) b.a->P i b.d):bc (a7 B.b B.a) f (spliced<|hN W<|g6 m T) P E c.d:=c3 (h f T L c K W n F R t) (λx X p=>p.casesOn λb v o S q C=>k b v x o (F.i R S) S q C) λr r h=>be h
theorem tg:hU B a z d .d []:=λA env L c Q S b F R h=>o6 ⟨c,[],R,a8.j _ _,.d,h⟩
theorem nv(s:a6 B a z d f e)(k:hU B a z d g m)(n:cr e=an):hU B a z d (.b f g)<|e::m:=λA env L c Q S i F R h=>o5 (s.e i F R h λW x u G y o M p=>k.e i y G p λr l D E v j t q=>⟨r,x::l,E,o.i j,.b (M.i G (cn _) j) t,q⟩)<|f1 n
theorem bm.c(h:bm t q r)(x:Z q<=bi):Z r<=lP:=az h.a x
theorem O0(f:hU B a z d b l):a6 B a z d (.e b)<|qZ l S:=λA env L c Q g F R h=>List_<|f.e g F R h λW l D G p n x q=>rH (bd.i n<|bd.e G I x q.2)<|x.c q.1
theorem Pm(e:hU B a z d b l):a6 B a z d (.g b)<|e7 l k S:=λA env L c Q f F R h=>Tuple_<|e.e f F R h λW l D G p n x q=>TR (bd.i n<|bd.b G (cj.o _ _) (.g (d2 _ I)<|x.f<|(a8.h ce<|cj.o W.d _).a G<|cn _) q.2)<|x.c q.1
theorem vu(w:B.e)(C:a.d.lookup x=Y gF)(e:fA B.d eO x=Y au)(P:pm x=Y h)(y:x≠"__name__")(D:(x==("__debug__"))=ax)(E:(∃i,h=cH i)\/∃T,h=bq T)(q:hU B a z d o f)(G:f.all cr=an){K:V->av->Prop}(H:f≠[])(s:da j d)(F:cv a m L c)(R:aV B c)(t:bA (aO z d) o L K c.a)(k:∀b l n,aV B b->cv a m L b->a8 ce c b->bm b l n->K (.g l) b.a->bc (a7 B.b B.a) j (e9 h n) Q bP b.d):bc (a7 B.b B.a) j (dU (cz (bR x p) f [] S) m) Q bP c.d:=by
 refine qU<|nk w F R C e P y ?_ D;cases f with
 |nil=>exact aA I H
 |cons M r=>
  refine bb ?_;intro N;refine aM (eS.mp G) λu v=>?_;rcases E with⟨i,rfl⟩|⟨T,rfl⟩
  .exact xR (q.e s F R t k) (f1 u) (oD v).1
  .exact callWith_type1 (q.e s F R t k) (f1 u) (oD v).1
structure dP(B:bZ)(a:bT)(x:aQ)(e:aZ):Prop where
 c:a.d.lookup x=Y gF
 f:fA B.d eO x=Y au
 b:pm x=Y e
 d:x≠"__name__"
 l:(x==("__debug__":aQ))=ax
 g:(∃h,e=cH h)\/∃T,e=bq T
theorem kf(n:B.e)(h:dP B a x f)(s:a6 B a z d g e)(j:cr e=an){i:V->av->Prop}(o:da A d)(F:cv a T L c)(R:aV B c)(t:bA (aO z d) g L i c.a)(k:∀b v x,aV B b->cv a T L b->a8 ce c b->aY b v x->i v b.a->bc (a7 B.b B.a) A (e9 f [x]) Q bP b.d):bc (a7 B.b B.a) A (dU (cz (bR x p) [e] [] S) T) Q bP c.d:=vu (K:=λv N=>v.i λl=>Cv l λv=>i v N) n h.c h.f h.b h.d h.l h.g (nv s tg j) (by simp[j]) ar o F R t λb l m E r u w q=>M6 (P:=λm=>bc (a7 B.b B.a) A (e9 f m) Q bP b.d) q w λv x y q=>k b v x E r u y q
theorem vv(r:B.e)(j:dP B a x g)(s:a6 B a z d i e)(t:a6 B a z d b h)(n:cr e=an)(W:cr h=an){m:V->V->av->Prop}(u:da A d)(F:cv a T L c)(R:aV B c)(C:bA (aO z d) i L (λv N=>bA (aO z d) b L (λw N=>m v w N) N) c.a)(k:∀f v w x y,aV B f->cv a T L f->a8 ce c f->aY f v x->aY f w y->m v w f.a->bc (a7 B.b B.a) A (e9 g [x,y]) Q bP f.d):bc (a7 B.b B.a) A (dU (cz (bR x p) [e,h] [] S) T) Q bP c.d:=vu (K:=λv N=>v.i λl=>Cw l λv w=>m v w N) r j.c j.f j.b j.d j.l j.g (nv s (nv t tg W) n) (by simp[n,W]) ar u F R C λf l o E D G H q=>M9 (P:=λo=>bc (a7 B.b B.a) A (e9 g o) Q bP f.d) q H λv w x y M X q=>k f v w x y E D G M X q
theorem Bu{c:bl}{i j:am}{t u:eV}(p:Prop)[jW p]:aY c (.a<|if p then j else i)<|if p then cS j u else cS i t:=by split<;>exact .a _ _
theorem OZ(m:B.e)(o:dP B a "len" (cH "len"))(s:a6 B a z d b e)(r:cr e=an):a6 B a z d (.k b)<|cz (bR "len" p) [e] [] S:=λA T L c Q t F R h=>kf m o s r t F R h λu v x G y j M q=>wu q M (λl W X n q f i=>len_tuple (d8 _ f I _ I) (zF q.1 (ex i) (I:bi=16777216))<|(ex i).symm▸(bd.i j<|bd.b G ⟨λg g e=>e,I,I⟩ (.a _ _) q.2)) λq=>q.b λl e q=>nh G M e λW X n f i=>len_list (d8 _ f I _ I) (zF q.1 (ex i) (I:bi=16777216))<|J (ex i)<|bd.i j<|bd.b G ⟨λg g e=>e,I,I⟩ (.a _ _) q.2
theorem OD(k:B.e)(l:dP B a "abs" (cH "abs"))(s:a6 B a z d f e)(m:cr e=an):a6 B a z d (.n f)<|cz (bR "abs" p) [e] [] S:=λA T L y Q o F R h=>kf k l s m o F R h λW v x G C w M q=>hr q M λj t q=>call_abs_int λu D=>by
 haveI e:(if j<0 then-j else j)=ao j:=by split<;>(first|exact(c8 [1,0,1] [1,1] I I:ap 1 1 [.c .g<|.r .a] (.c (.r .a) .g))<|oZ<|(aq [1,1] I:ap 0 1 [.b .a .i] (.d .a .i)) (by assumption)|exact u7<|gj<|zp (by assumption))
 exact J e<|bd.i w<|bd.b G (cj.a _ _) (.a _ _) q
theorem O2(l:B.e)(m:dP B a "max" (cH "max"))(s:a6 B a z d f e)(n:a6 B a z d b k)(o:cr e=an)(W:cr k=an):a6 B a z d (.ak f b)<|cz (bR "max" p) [e,k] [] S:=λA T L c Q g F R h=>vv l m s n o W g F R h λE v w x y G H r M C q=>jO q M C λi t j u q=>max_two_ints g.a λK N D=>bd.i r<|bd.b G (cj.b _ D) (Bu _) q
theorem O4(l:B.e)(m:dP B a "min" (cH "min"))(s:a6 B a z d f e)(n:a6 B a z d b k)(o:cr e=an)(W:cr k=an):a6 B a z d (.ai f b)<|cz (bR "min" p) [e,k] [] S:=λA T L c Q g F R h=>vv l m s n o W g F R h λE v w x y G H r M C q=>jO q M C λi t j u q=>min_two_ints g.a λK N D=>bd.i r<|bd.b G (cj.b _ D) (Bu _) q
theorem Pn(r:B.e)(s:dP B a "tuple" (bq "tuple"))(t:a6 B a z d f e)(u:cr e=an):a6 B a z d (.E f)<|cz (bR "tuple" p) [e] [] S:=λA T L c Q w F R h=>kf r s t u w F R h λy v x G D k M q=>wu q M (λl W X n q i j=>call_tuple_same (d8 _ i I _ I)<|bd.i k<|bd.a G (.g i j) q) λq=>q.b λl e q=>nh G M e λW X n i j=>call_tuple_list (d8 _ i I _ I) (λH C=>haveI m:=⟨λb o e=>dJ _<|C b o e,I,I⟩;bd.i k<|bd.b G m (.g (d2 _ I)<|j.f<|(a8.h ce m).a G<|cn _) q.2.2)<|j.c q.2.1
theorem Pl(j:B.e)(k:dP B a "list" (bq "list"))(s:a6 B a z d f b)(m:cr b=an):a6 B a z d (.ac f)<|cz (bR "list" p) [b] [] S:=λA T L c Q o F R h=>kf j k s m o F R h λy v D G E r M q=>ws q M λl W X n q t i=>call_list_seq W (a1 I) t I I (λH u C w=>haveI g:=⟨C,I,I⟩;bd.i r<|bd.u (x:=.e _) G g bk aV.k (dr X u w<|i.f<|(a8.h ce g).a G<|cn _) q.2)<|i.c q.1
theorem OY(g:B.e)(f:dP B a "isinstance" (cH "isinstance"))(D:dP B a "tuple" (bq "tuple"))(s:a6 B a z d b e)(i:cr e=an):a6 B a z d (.ag b)<|cz (bR "isinstance" p) [e,bR "tuple" E] [] S:=λA T L c Q j F R k=>qU<|nk g F R f.c f.f f.b f.d (xR (o5 (s.e j F R k λW v x G y m M q=>o5 (nk g y G D.c D.f D.b D.d (o6<|ws q M λl r X n q o t=>call_isinstance_yes (aF _ o I) (by kernel_rfl) (by rw[rB];kernel_rfl)<|bd.i m<|bd.a G (.h _) q) D.l) I)<|f1 i) (f1 i) I) f.l
theorem Cu{h d:j2}{wr:U aU}(T:h.get? c=au)(C:∀b y,b∉[c]->(co h o).get? b=Y y->d.get? b=Y y):∀b y,h.get? b=Y y->d.get? b=Y y:=λb y e=>C b y (by simp;rintro rfl;rw[T]at e;exact aC e ar)<|dJ _ e
def lC(X:cQ aZ)(i:O):ba:=match X[i]?with|Y (jw b)=>b|_=>ax
theorem Ak(h:bm c l (cx X))(s:ge l):(b2 (aX X)).any (lC X)=a0 (V.h an∈l)/\(b2 (aX X)).all (lC X)=a0 (V.h ax∉l):=by
 have E:=ex h;have D:∀i b,l[i]?=Y (V.h b)->lC X i=b:=λi b e=>by refine ay (h.g e) λx A j=>?_;rw[hI]at A;obtain rfl:=j.m;delta lC;exact J A I
 constructor
 .rw[nB];simp only[lF,ed,g8];constructor
  .rintro⟨i,y,f⟩;have a:i<Z l:=n2 E y;haveI g:=cl a;refine bH (s _<|dZ g) λb d=>?_;rw[d]at g;rw[D i b g]at f;exact az f<|dZ g
  .refineλT=>bb ?_;intro p;refine bH (kR.mp T) λi y=>?_;haveI:=qf y;exact aF i (pE E this)<|D i an y
 .rw[nB];simp only[gl,ed,g8];constructor
  .intro A T;obtain⟨i,y⟩:=kR.mp T;haveI K:=qf y;haveI:=A i<|pE E K;rw[D i ax y]at this;exact aC this ar
  .refineλT i y=>have a:i<Z l:=n2 E y;haveI g:=cl a;bH (s _<|dZ g) λb d=>?_;replace g:=d▸g;refine J (D i b g) ?_;induction b with|true=>rfl|false=>exact aA (dZ g) T
theorem DV(h:bm c l (cx X))(a:ge l)(K:X[i]?=Y v)(d:Q (lC X i) s):bc (a7 f w) A (truthy v) Q E s:=ay (h.h (by rw[<-hI]at K;exact dZ K)) λz g j=>bH (a z g) λb e=>by
 subst e;obtain rfl:=j.m;haveI:lC X i=b:=by delta lC;exact J K I
 exact kY<|az this d
theorem OF(k:B.e)(m:dP B a "any" (cH "any"))(o:a6 B a z d b e)(r:cr e=an):a6 B a z d (.H b)<|cz (bR "any" p) [e] [] S:=λt T L c Q g F R u=>kf k m o r g F R u λW v x G N w M q=>q.b λl e q=>nh G M e λy X n f j=>call_any_walk<|yh (aF _ f ⟨I,_,I⟩)<|Bn _ _ _ _ _ _ (lC X) I (Fd (A:=t.in1) g.a (aX W.d.heap.objs) y (λe=>f5 _<|e▸d3 f) X) ⟨⟨_,d2 _ I,I,I⟩,⟨_,dJ _ f,I,_,I⟩⟩ ⟨λi v s Q E K C=>DV j q.1 K C,λP a' D=>J (Ak j q.1).1<|bd.i w<|bd.b G (cj.b _<|Cu (wr:=[]) aV.k D) (.h _) q.2.2⟩
theorem OE(k:B.e)(m:dP B a "all" (cH "all"))(o:a6 B a z d b e)(r:cr e=an):a6 B a z d (.L b)<|cz (bR "all" p) [e] [] S:=λt T H c Q g F R u=>kf k m o r g F R u λW v x G N w M q=>q.b λl e q=>nh G M e λy X n f j=>call_all_walk<|yh (aF _ f ⟨I,_,I⟩)<|Bn _ _ _ _ _ _ (lC X) I (Fd (A:=t.in1) g.a (aX W.d.heap.objs) y (λe=>f5 _<|e▸d3 f) X) ⟨⟨_,d2 _ I,I,I⟩,⟨_,dJ _ f,I,_,I⟩⟩ ⟨λi v s Q E K C=>DV j q.1 K C,λP a' D=>J (Ak j q.1).2<|bd.i w<|bd.b G (cj.b _<|Cu (wr:=[]) aV.k D) (.h _) q.2.2⟩
def wG(i j s:am)(Q:V->av->Prop)(N:av):Prop:=ao i<2^30/\ao j<2^30/\(s=1\/s=-1)/\Q (.x i j s) N
theorem Pb(j:B.e)(k:dP B a "range" (bq "range"))(s:a6 B a z d g e)(l:cr e=an):a6 B a z d (.x (.a 0) g<|.a 1)<|cz (bR "range" p) [e] [] S:=λA T L c Q m F R h=>kf j k s l m F R h λW v r G y n M q=>hr (f:=λi=>wG 0 i 1 Q W.a) q M λi t q=>call_range_1<|bd.i n<|bd.b G ⟨λb o e=>dJ _ e,I,I⟩ (.x (aP q.1 q.2.1 q.2.2.1)<|d2 _ I) q.2.2.2
theorem Pc(l:B.e)(m:dP B a "range" (bq "range"))(s:a6 B a z d g e)(n:a6 B a z d b k)(r:cr e=an)(W:cr k=an):a6 B a z d (.x g b<|.a 1)<|cz (bR "range" p) [e,k] [] S:=λA T L c Q C F R h=>vv l m s n r W C F R h λD v w K y G N E M H q=>jO (f:=λi j=>wG i j 1 Q D.a) q M H λi t j u q=>call_range_2<|bd.i E<|bd.b G ⟨λb o e=>dJ _ e,I,I⟩ (.x (aP q.1 q.2.1 q.2.2.1)<|d2 _ I) q.2.2.2
theorem Pd(M:B.e)(n:dP B a "range" (bq "range"))(N:a6 B a z d m e)(T:a6 B a z d b f)(X:a6 B a z d s g)(r:cr e=an)(W:cr f=an)(w:cr g=an):a6 B a z d (.x m b s)<|cz (bR "range" p) [e,f,g] [] S:=λA g' h' o Q t F R h=>vu (K:=λv u=>v.i λl=>Cx l λC y D=>C.c λE=>y.c λG=>D.c λs=>wG E G s Q u) M n.c n.f n.b n.d n.l n.g (nv N (nv T (nv X tg w) W) r) (by simp[r,W,w]) ar t F R h λL l H a' i' b' c' q=>Na (P:=λH=>bc (a7 B.b B.a) A (e9 (bq "range") H) (bd B o Q) bP L.d) q c' λC y D j' k' l' d' e' f' q=>hr q d' λE m' q=>hr q e' λG n' q=>hr q f' λs v q=>call_range_3 (by rcases q.2.2.1 with h|h<;>(first|exact(aq [1,0,0,1] I:ap 0 1 [.c .a .k] (.j .a .i)) h|exact(aq [0,1,1] I:ap 0 1 [.c .a<|.c<|-1] (.j .a .i)) h)) (bd.i b'<|bd.b a' ⟨λb o' e=>dJ _ e,I,I⟩ (.x (aP q.1 q.2.1 q.2.2.1)<|d2 _ I) q.2.2.2)<|aK<|Tf (by rcases q.2.2.1 with h|h<;>subst h<;>decide)
theorem DQ(a:B.e)(R:aV B c):(aX c.d.heap.objs==ue)=ax:=FA.mpr<|gB<|modules_low<|a.c.keeps R.d
theorem OO(f:B.e):a6 B a z d .S<|.Dict [] [] e:=λA T L c Q g F R h=>wpAny_Dict_empty<|bd.u (x:=.b []) R (cj.o _ _) bk aV.k (bO [] (Tq _) .d<|DQ f R) h
theorem OP(q:B.e)(r:a.b.lookup g=Y i)(C:a.d.lookup g=Y .local)(T:(g==("__debug__"))=ax):a6 B a z d (.al (.c i)<|.h f)<|.Dict [Y<|bR g p] [gE (gZ f) k E] S:=λA s L K Q M F R j=>by refine bb ?_;intro N;refine ay (bF.a j) λv e j=>ay F.e λm u P=>ay (P g i r C _ e) λy l w=>?_;revert l;exact hr j w λn t j l=>wpAny_Dict_walk I I (by simp) (gD _)<|aS<|Fp (Fv F.h (J F.d C:s.scope.names.lookup g=_) (j8.a.k u λo e=>dJ _ e) l<|aS<|eh<|aS<|yf<|aS<|g7<|bC<|aS<|eh<|bC<|bC<|bO [(n,jw f)] (aP (by simp[ga,ph]) I bk) (Tq _) λW D G=>bd.u (x:=.b [(n,.h f)]) R ⟨λf o e=>(G.2 f λH=>f5 _<|H▸d3 e).trans<|dJ _ e,I,I⟩ bk aV.k (bO [(n,jw f)] D (.b (.h f) .d)<|DQ q R) j.2) T
end
end
section
variable{prog:g3}{w:fB}{A:cR}{E:aZ->bB->Prop}{s:bB}{env:dF}
mutual
theorem vL(P:hq i=an)(h:bc (a7 prog w) A (dU i env) (λo b=>bc (a7 prog w) A (x7 o C an) Q E b) E s):bc (a7 prog w) A (dU (dT i C S) env) Q E s:=(J (vq P)<|aS<|c3 h (λo b z=>aS<|g7<|aS<|eh<|c3 z (λr H a=>aS<|Fu<|bC a) λp p x=>x) λp p x=>x:bc (a7 prog w) A (do
 let o<-t5 i C env (dU i env)
 nP S.atName
 let r<-holding [o] (x7 o C an)
 TE i o r
 cG r) Q E s)
theorem DN(h:ne v=ax):yd v ax o i=uc [o,i] (rA o i):=by have k:ax=ax->uc [o,i] (rA o i)=uc [o,i] (rA o i):=λp=>I;revert h;induction v using es<;>first|exact k|exact oM
theorem w8{T e:iW}(z:s.TypeIs o T)(c:typeLookup (bq T) "__getitem__"=cG (Y<|cH e))(a:yd v ax o i=uc [o,i] (rA o i)\/yd v ax o i=uc [i,o] (rA o i))(h:bc (a7 prog w) A (rA o i) Q E s):bc (a7 prog w) A (xU b v o i) Q E s:=by
 skip;refine aS<|(getitemInPython_of_ne z.not_modules).symm▸(aS<|TX z c ?_);haveI D:bc (a7 prog w) A (yd v ax o i) (λr l=>bc (a7 prog w) A (TE b o r>>=λp=>cG r) Q E l) E s:=by
  rcases a with a|a
  .exact J a<|TS<|c3 h (λr l n=>aS<|Fu<|bC n) λp p x=>x
  .exact J a<|TS<|c3 h (λr l n=>aS<|Fu<|bC n) λp p x=>x
 first|exact bC<|aS D|exact wpAny_bind<|wpAny_pure<|wpAny_bind D|exact wpAny_bind D
end
end
section
variable{B:bZ}{a:bT}{z:O->a3 bg}{d:O}
mutual
theorem OH(g:B.e)(K:i0 B.d)(s:a6 B a z d b e)(T:i9 o i=an)(j:hq e=an):a6 B a z d (.f b o i)<|dT e (eK i) S:=λA env L c Q k F R h=>vL j<|s.e k F R h λW v x G y n M q=>bF.b q.2 λr e l=>Cs q.1 M λm=>JW g.a K G T m e λx P=>bd.i n<|bd.b G (cj.a _ _) P l
theorem Kd{W:aU}(R:aV B b)(m:ne v=ax)(k:b.d.heap.get? W=Y ⟨bq "tuple",au,c9 X n,#[]⟩)(o:bm b l (cx X))(q:0<=j/\j<2^62/\bF (l[(bM j)]?) λe=>Q e b.a):bc (a7 B.b B.a) f (xU g v (aN W)<|cS j t) (bd B b Q) bP b.d:=bF.b q.2.2 λe p s=>ay (o.g p) λz h u=>by rw[hI]at h;exact w8 ⟨_,k,I⟩ slot_tuple_getitem.lookup (aK<|DN m)<|getItem_tuple (d8 _ k I _ I) ((aq [1,1] I:ap 0 1 [.d .i .a] (.d (.r<|.c<|2^63) .a)) q.1) (r6 q.2.1) (seqIndex_of q.1<|zP (Array.getElem?_eq_some_iff.mp h).1<|Ex _) h<|bd.a R u s
theorem Kc{W:aU}(R:aV B f)(x:ne v=ax)(o:f.d.heap.get? W=Y ⟨bq "list",au,c9 X n,#[]⟩)(p:bm f l (cx X))(q:-(Z l:am)<=e/\e<2^62/\Z l<=bi/\bF (l[(bM (if e<0 then e+Z l else e))]?) λh=>Q h f.a):bc (a7 B.b B.a) i (xU k v (aN W)<|cS e t) (bd B f Q) bP f.d:=bF.b q.2.2.2 λh y u=>ay (p.g y) λz m w=>by
 rw[hI]at m;refine w8 (aF _ o I) slot_list_getitem.lookup (aK<|DN x) ?_;by_cases s:e<0
 .rw[a9 s,<-ex p]at m;exact wpAny_getItem_list_neg ⟨_,o,I,_,I⟩ s ((aq [1,1,0,1] I:ap 2 1 [.d (.r .g) .a,.a .b .a] (.d (.r .j) .a)) q.1<|ex p) ((aq [1,1,1,1] I:ap 2 1 [.d (.r .g) .a,.g .a .b,.a .b<|.c 16777216] (.d (.r<|.c<|2^63) .a)) q.1 q.2.2.1 (I:bi=16777216)) m<|bd.a R w u
 .rw[bf s]at m;exact wpAny_getItem_list ⟨_,o,I,_,I⟩ (zp s) (r6 q.2.1) m<|bd.a R w u
theorem OT(s:a6 B a z d f e)(r:a6 B a z d b k)(o:ne k=ax):a6 B a z d (.i f b)<|pb e k S:=λA env L c Q p F R h=>xP<|s.e p F R h λN v x G u C M q=>r.e p u G q λP w y E T g D q=>hr q D λj t q=>jV (C.i g)<|wu q (M.i G (cn _) g) (λl W H n q X m=>Kd E o X m q) λq=>q.b λl K q=>nh E (M.i G (cn _) g) K λW H n X m=>Kc E o X m q
theorem j8.b{h:j2}{a:aU}(g:aX h.objs<=a):h.get? a=au:=by cases q:h.get? a with|none=>rfl|some o=>exact aA (d3 q)<|kV.mpr g
theorem wP{A:cR}{c:bl}{v:V}{i:aZ}{d:U V}{L y:a3 am}{C W:aZ}{T:U V}{Q:V->av->Prop}{r:cC}{t K:a3 cC}{p:il}(R:aV B c)(M:aY c v i)(h:c.a.i v=Y d)(u:Z d<=bi)(w:IsPart C L)(z:IsPart W y)(D:∀X:cQ aZ,bm c d (cx X)->bm c T (cx (Fn X L y au)))(q:Q (.e c.a.d) (c.a.b<|.e T)):bc (a7 B.b B.a) A (xU r (q0 t K au p) i<|aN (aX c.d.heap.objs)) (bd B c Q) bP {c.d with heap:=co c.d.heap {cls:=bq "slice",data:=fo #[C,W,dL]}}:=nh R M h λE X n F j=>haveI k:(co c.d.heap {cls:=bq "slice",data:=fo #[C,W,dL]}).IsList E X:=d8 _ (dJ _ F) I _ I;w8 (s:={c.d with heap:=co c.d.heap {cls:=bq "slice",data:=fo #[C,W,dL]}}) k.typeIs list_getitem_lookup (a1 I)<|wpAny_getItem_list_slice (s:={c.d with heap:=co c.d.heap {cls:=bq "slice",data:=fo #[C,W,dL]}}) k (Ur ..) w z .none as (haveI m:cj c.d {c.d with heap:=co (co c.d.heap {cls:=bq "slice",data:=fo #[C,W,dL]}) {cls:=bq "list",data:=c9<|Fn X L y au}}:=⟨λG o h=>dJ _<|dJ _ h,I,I⟩;bd.u (x:=.e T) R m bk (j8.b (by rw[q6];exact cO _)) (dr _ 0 (d2 _ I)<|(D X j).f<|(a8.h ce m).a R<|cn _) q)<|(aq [1,1,1,0,0,1] I:ap 4 0 [.g .a .b,.a .f .a,.a .l .b] (.g .f .l)) u (ex j) (I:lP=bi)
theorem Pq(y:bm c i (cx X)):bm c ((i.take m).drop k) (cx (Fn X (Y k) (Y m) au)):=by
 rw[slicePick_plain];simp only[Option.elim,clipAt_nat];haveI v:Z X.toList=aX X:=I;haveI j:((X.toList.drop k).take<|min m (aX X)-min k (aX X))=(X.toList.take m).drop k:=by
  refine J List.drop_take<|aE (EL k (aX X)) (λh=>J (iS h)<|aE (EL m (aX X)) (λd=>J (iS d) I) λd=>J (SW d)<|J (SM (by simp))<|J (SM (by simp;exact(aq [1,1,1] I:ap 4 0 [.g .a .b,.g .b<|.e .f .l] (.g .a<|.e .f .l)) d<|xJ<|b4 _)) I) λh=>?_
  .refine J (tJ<|J v h) ?_;simp
 exact J (aE (EL k (aX X)) (λh=>J (iS h) I) λh=>J (SW h)<|J (tJ<|jt v)<|J (tJ<|J v h) I:X.toList.drop (min k (aX X))=X.toList.drop k)<|J j<|(y.m m).w k
theorem Pf(s:a6 B a z d f e)(n:a6 B a z d b g):a6 B a z d (.af f b)<|pb e (q0 au (Y g) au p) S:=λA env L c Q i F R h=>xP<|s.e i F R h λW v x G o r M q=>Fq (by rw[Fi];refine bC ?_;rw[x6];refine n.e i o G q λK w y E N m u q=>bC<|hr q u λj t q=>q.b λl C q=>bH (tD q.1) λk D=>?_;subst D;exact jV (r.i m)<|wP E (M.i G (cn _) m) C q.2.2.1 .none (.int _ _) (λX H=>by rw[slicePick_upto'];exact H.m k) q.2.2.2)
theorem Pe(s:a6 B a z d f e)(n:a6 B a z d b g):a6 B a z d (.ab f b)<|pb e (q0 (Y g) au au p) S:=λA env L c Q i F R h=>xP<|s.e i F R h λW v x G o r M q=>Fq (by rw[x6];refine n.e i o G q λK w y E N m u q=>?_;rw[Fi];refine bC<|bC<|hr q u λj t q=>q.b λl C q=>bH (tD q.1) λk D=>?_;subst D;exact jV (r.i m)<|wP E (M.i G (cn _) m) C q.2.2.1 (.int _ _) .none (λX H=>by rw[slicePick_from'];exact H.w k) q.2.2.2)
theorem Pg(D:a6 B a z d f e)(H:a6 B a z d b g)(K:a6 B a z d n o):a6 B a z d (.Q f b n)<|pb e (q0 (Y g) (Y o) au p) S:=λA env L m t r F R h=>xP<|D.e r F R h λu v x G M N P q=>Fq (by rw[x6];refine H.e r M G q λy w a' E T s W q=>?_;rw[x6];refine K.e r T E q λb' c' d' X e' C c q=>?_;rw[Fi];refine bC<|hr q W λf' g' q=>hr q c λh' i' q=>q.b λj' j q=>bH (tD q.1) λk' k=>?_;subst k;obtain⟨l',rfl⟩:=tD (ey q.1 q.2.1);exact jV (N.i<|s.i C)<|wP X ((P.i G (cn _) s).i E (cn _) C) j q.2.2.2.1 (.int _ _) (.int _ _) (λm' l=>Pq l) q.2.2.2.2)
theorem aV.A(R:aV B o)(g:aY o L x)(e:o.a.i L=Y N){b:iW}(i:Slot "list" M b)(m:typeOf (cH b)=cG (bq "method_descriptor"))(h:∀W,x=aN W->Q (cH b,[aN W]) o.d):bc (a7 B.b B.a) P (t8 x M S) Q bP o.d:=hw (R.e g e) λW X n d f p p=>J d<|getMethod_builtin (aF _ f I) PySem.F.plainAttrs_list i m (λa e=>by injection e with e;subst e;exact aF _ f I)<|J d<|h W d
inductive nR(N:av)(v w:V):av->Prop|f{l:U V}{A:av}(h:N.i v=Y l)(g:Z l<bi)(p:N.p v (l++[w])=Y A):nR N v w A|a{o d k:O}{x:U (U V)}{l:U V}(i:v=.j (.b o d) (N.e<|.b o d))(m:w=.e k)(L:N.c o d=.a x)(z:N.a k=Y (.e l))(g:Z x<bi):nR N v w {N with c:=dh N.c o d<|.a<|x++[l],e:=ff N.e<|.a o d (Z x),a:=aw N.a k au}
theorem nR.l{N d:av}(A:N.o v w=Y d):nR N v w d:=by
 haveI D:N.v v w=Y d->nR N v w d:=λA=>ay (xM.mp A) λi e h=>aM (fi h) λc h=>.f e c.2 h;revert D;induction v using V.casesOn with
 |j M g=>induction M with|b o p=>exact aM (fi A) λx m=>J x λq=>aE (wo m) (λh=>ay h λi L h=>aM (fi h) λc h=>.f (BP L) c.2<|(CL L).trans h) λh=>ay h λr L h=>ay (wp h) λk n h=>ay (mu h) λi z h=>aM (fi h) λc h=>az (bE h)<|.a I n L z c.2|_=>exactλk=>k A
 |_=>exactλk=>k A
structure uF(B:bZ)(c:bl)(X:bB)(A:av)(e:bl):Prop where
 d:e.d=X
 a:e.a=A
 j:aV B e
 i:a8 ce c e
theorem uF.b(a:uF B c X A e)(S:a8 ce E c)(h:aY e v x)(q:Q v A):bd B E Q x X:=az a.d<|.mk e v a.j (S.i a.i) h<|J a.a q
theorem K3{l:U (U V)}(s:j≠Z l):(l++[x])[j]?=l[j]?:=aE (f6 j (Z l)) (λc=>lG c) λc=>J (gX (by simp;exact(sZ [1,0,1] [1,1] I I:ap 2 0 [.h .a .b,.g .b .a] (.g (.h .b) .a)) s c))<|J (gX c) I
theorem GR{c:bl}(R:aV B c){v w:V}{W:aU}{y:aZ}{A:av}(P:aY c v (aN W))(t:aY c w y)(E:c.a.o v w=Y A):∃X n,aX X<=lP/\c.d.heap.get? W=Y (h8 X n)/\∃e,uF B c {c.d with heap:=c.d.heap.update W<|e8 λg=>g.push y} A e:=by
 haveI q:lP=bi:=I;induction nR.l E with
 |f u x F=>refine bb ?_;intro G;refine hw (R.e P u) λT X n h z C k=>?_;injection h with h;subst h;exact bH (oi (s:=c.d) z (·.push y) (cA c.d)) λK H=>haveI:=R.p P u F H<|J xl<|C.u t;dr X n (zq q x<|ex C)<|lk z _ ⟨I,I,this.1,this.2⟩
 |@a o M a' m l N Q L S x=>
  refine bb ?_;intro G;subst Q;refine cF (R.F L) λX n p D=>?_;obtain rfl:W=c.b (.b o M):=by subst N;exact P.t I ⟨_,pV L⟩
  have r:aX X=Z m:=by refine J (ex D) ?_;simp[ly]
  refine bH (oi (s:=c.d) p (·.push y) (cA c.d)) λK H=>?_;haveI:=CR (ll':=m++[l]) (i:=Z m) R L S t p D (λj d=>K3 d) (by simp) (by simp[r]) (by refine r▸?_;simp) (λj d=>by rw[<-r]at d;refine J Array.getElem?_push ?_;simp[d]) H;exact dr X n (zq q x r)<|lk p _ ⟨I,I,this.1,this.2.1⟩
theorem OG(s:a6 B a z d f e)(p:a6 B a z d b k)(r:hq e=an)(i:cr k=an)(t:(g.endLine==S.line)=an):a6 B a z d (.o f b)<|cz (dT e "append" g) [k] [] S:=λA c L l Q j F R h=>s0 r (by simp[i]) (by simp) t<|s.e j F R h λv w x G u C M q y=>q.b λa' D q=>G.A M D To PySem.F.type_list_append λb' E=>J (f1 i)<|PySem.P.append_list<|p.e j u G q λc' d' e' H f' m K q=>q.b λg' N q=>RH (GR H (az E<|M.i G (cn _) m) K N) λX n P T h' W=>fv X n P T<|W.b (C.i m) .z q
theorem OQ(v:a6 B a z d j i)(w:a6 B a z d m k)(x:hq i=an)(D:cr k=an)(y:(o.endLine==S.line)=an):a6 B a z d (.F j m)<|cz (dT i "extend" o) [k] [] S:=λn' o' p' q' r' K A R H=>s0 x (by simp[D]) (by simp) y (v.e K A R H λs' t' u' G L Q M q v'=>q.b λw' a' q=>G.A M a' PySem.F.slot_list_extend PySem.F.type_list_extend λx' b'=>(J (f1 D) (PySem.P.extend_list (w.e K L G q λr y' z' E A' N c' q=>q.b λB' X q=>q.b λC' d' q=>bF.b q.2.2.2.2 λe' f' g'=>nh E c' d' λh' s i' j' P=>by
 haveI p:=M.i G (cn _) N;replace p:=b'▸p;refine bb ?_;intro D';refine hw (E.e p X) λE' T k' t W c F'=>?_;injection t with t;subst t;haveI u:lP=bi:=I;haveI C:=ex c;haveI n:=ex P;refine bH (oi W (·++s) (cA r.d)) λG' l'=>?_;haveI:=E.p p X f' l'<|J Ei<|c.o P;haveI m':Th (aX T+aX s)=ax:=by delta Th;simp;exact(aq [1,1,0,1,1,0,1] I:ap 6 0 [.g (.e .a .b) .f,.a .l .f,.a .d .a,.a .g .b] (.g (.e .d .g) .l)) q.2.2.2.1 u C n
 exact Ka h' T s k' i' ((aq [1,1,0,1,1] I:ap 5 0 [.g (.e .a .b) .f,.a .l .f,.a .d .a] (.g .d .l)) q.2.2.2.1 u C) ((aq [1,1,0,1,1,0,1] I:ap 6 0 [.g (.e .a .b) .f,.a .l .f,.a .d .a,.a .g .b] (.g (.e .d .g)<|.h .l)) q.2.2.2.1 u C n) (by refine J m' ?_;first|rfl|simp) I W ⟨j',.mk ⟨r.b,r.c,e',_⟩ .z this.1 (Q.i<|N.i this.2) .z g'⟩))))
theorem NA{X:cQ aZ}(h:0<aX X):cx (X.eraseIdxIfInBounds<|aX X-1)=X.toList.take (aX X-1):=by obtain⟨k⟩:=X;delta Array.eraseIdxIfInBounds;refine J (dif_pos<|Nat.sub_one_lt<|gB h) ?_;simp only[List.eraseIdx_toArray,mv];rw[Sn,tJ<|xJ<|b4 _,dI]
theorem Pa(t:a6 B a z d i e)(u:hq e=an)(w:(j.endLine==S.line)=an):a6 B a z d (.aj i)<|cz (dT e "pop" j) [] [] S:=λA L Q a' b' C F R h=>s0 u I (gD _) w (t.e C F R h λW c' d' G e' D M q f'=>q.b λK k q=>bF.b q.2.2 λN r m=>m.b λP T m=>G.A M k PySem.F.slot_list_pop PySem.F.type_list_pop λg' c=>by
 rw[c]at M;refine bb ?_;intro h';refine hw (G.e M k) λi' n j' o s p k'=>?_;injection o with o;subst o;haveI E:=ex p;haveI v:0<Z K:=List.length_pos_iff.mpr λh=>by subst h;cases r
 refine ay (p.g<|az List.getLast?_eq_getElem? r) λl' X x=>?_;rw[hI]at X;exact bH (oi s (λy=>y.eraseIdxIfInBounds<|aX n-1) (cA W.d)) λm' H=>haveI:=G.p M k T H<|J (NA<|E▸v)<|Sl.symm▸E▸(p.m _);PySem.P.pop_list s (E▸X) (.mk ⟨W.b,W.c,P,_⟩ N this.1 (D.i this.2) (x.i G (cn _) this.2) m)<|(aq [1,1,0,1,1] I:ap 4 0 [.g .a .b,.a .f .b,.a .l .a] (.g .l .f)) q.2.1 (I:lP=bi) E)
end
end
mutual
def gc(a:bT)(env:dF)(b:aU):Prop:=b=env.locals\/∃x i,a.b.lookup x=Y i/\a.d.lookup x=Y d4/\env.cells.lookup x=Y b
structure k3(B:bZ)(a:bT)(env:dF):Prop where
 c:B.c.get? env.locals=au
 b:∀x i d,a.b.lookup x=Y i->a.d.lookup x=Y d4->env.cells.lookup x=Y d->B.c.get? d=au
theorem cv.k(F:cv Γ T q p):k7 (gc Γ T) p:=λb g o z=>by
 rcases g with rfl|⟨x,i,A,h,Q⟩
 .refine ay F.e λm S f=>e5 S λy j H d e f=>?_;replace d:=z▸d;exact J (bE d)<|aK<|fu _ _ e
 .refine dd (F.b x i A<|aK h) λa v d W f=>ay W λy e P=>?_;replace d:=Q▸d;injection d with d;subst d;replace e:=z▸e;exact J (bE e)<|a1<|aK ⟨_,P⟩
inductive k0(c:bl):dk->Flow->Prop|b:k0 c .b g2|d:k0 c .d .brk|e:k0 c .e .cont|c{v:V}{x:aZ}:aY c v x->k0 c (.c v) (gp x)
inductive fF(B:bZ)(a:bT)(env:dF)(c:bl)(Q:dk->U V->av->Prop)(L:Flow):bB->Prop|mk(e:bl)(n:U V)(f:dk)(R:aV B e)(F:cv a env n e)(S:a8 (gc a env) c e)(T:k0 e f L)(q:Q f n e.a):fF B a env c Q L e.d
inductive lW(B:bZ)(a:bT)(env:dF)(c:bl)(Q:U V->av->Prop):bB->Prop|mk(e:bl)(n:U V)(R:aV B e)(F:cv a env n e)(S:a8 (gc a env) c e)(q:Q n e.a):lW B a env c Q e.d
theorem fF.i(S:a8 (gc Γ T) e g)(h:fF j Γ T g Q k X):fF j Γ T e Q k X:=h.casesOn λa n f R F p A q=>⟨a,n,f,R,F,S.i p,A,q⟩
theorem lW.i(S:a8 (gc Γ T) b e)(h:lW f Γ T e Q X):lW f Γ T b Q X:=h.casesOn λa n R F p q=>⟨a,n,R,F,S.i p,q⟩
theorem xg(S:a8 (gc Γ T) e f)(h:bc (a7 b.b b.a) g m (fF b Γ T f Q) bP s):bc (a7 b.b b.a) g m (fF b Γ T e Q) bP s:=c3 h (λp p=>fF.i S) λp p h=>h
theorem a8.b(S:a8 ce l r):a8 (gc Γ T) l r:=S.k λp h=>be h
def hV(B:bZ)(a:bT)(z:O->a3 bg)(d:O)(N:bo)(l:U lO):Prop:=∀(A:cR)(env:dF)(L:U V)(c:bl)(Q:dk->U V->av->Prop),da A d->k3 B a env->cv a env L c->aV B c->dH (aO z d) N Q L c.a->bc (a7 B.b B.a) A (execs l env) (fF B a env c Q) bP c.d
def fS(B:bZ)(a:bT)(z:O->a3 bg)(d:O)(N:bo)(b:lO):Prop:=∀(A:cR)(env:dF)(L:U V)(c:bl)(Q:dk->U V->av->Prop),da A d->k3 B a env->cv a env L c->aV B c->dH (aO z d) N Q L c.a->bc (a7 B.b B.a) A (exec b env) (fF B a env c Q) bP c.d
def i3(B:bZ)(a:bT)(z:O->a3 bg)(d:O)(t:fT)(e:cC):Prop:=∀(A:cR)(env:dF)(L:U V)(c:bl)(v:V)(x:aZ)(b:a3 O)(Q:U V->av->Prop),da A d->k3 B a env->cv a env L c->aV B c->aY c v x->(∀i,b=Y i->c5 L i=Y v)->iw (aO z d) t v b Q L c.a->bc (a7 B.b B.a) A (pl e env x) (λp X=>lW B a env c Q X) bP c.d
end
section
variable{B:bZ}{a:bT}{z:O->a3 bg}{d:O}{A:cR}{env:dF}{L:U V}{c:bl}{E:aZ->bB->Prop}
mutual
theorem hV.e(h:hV B a z d N l)(j:da A d)(m:k3 B a env)(F:cv a env L c)(R:aV B c)(t:dH (aO z d) N Q L c.a)(k:∀b n f g,aV B b->cv a env n b->a8 (gc a env) c b->k0 b f g->Q f n b.a->P g b.d):bc (a7 B.b B.a) A (execs l env) P E c.d:=c3 (h A env L c Q j m F R t) (λi i p=>p.casesOn λb n f R F S T q=>k b n f _ R F S T q) λi i h=>be h
theorem fS.e{j:lO}(h:fS B a z d N j)(l:da A d)(m:k3 B a env)(F:cv a env L c)(R:aV B c)(t:dH (aO z d) N Q L c.a)(k:∀b n f g,aV B b->cv a env n b->a8 (gc a env) c b->k0 b f g->Q f n b.a->P g b.d):bc (a7 B.b B.a) A (exec j env) P E c.d:=c3 (h A env L c Q l m F R t) (λi i p=>p.casesOn λb n f R F S T q=>k b n f _ R F S T q) λi i h=>be h
theorem i3.e{P:bB->Prop}(h:i3 B a z d t j)(l:da A d)(m:k3 B a env)(F:cv a env L c)(R:aV B c)(M:aY c v x)(o:∀i,g=Y i->c5 L i=Y v)(r:iw (aO z d) t v g Q L c.a)(k:∀b n,aV B b->cv a env n b->a8 (gc a env) c b->Q n b.a->P b.d):bc (a7 B.b B.a) A (pl j env x) (λf X=>P X) E c.d:=c3 (h A env L c v x g Q l m F R M o r) (λf f p=>p.casesOn λb n R F S q=>k b n R F S q) λf f h=>be h
end
end
section
variable{B:bZ}{a:bT}{z:O->a3 bg}{d:O}
mutual
theorem aV.l(R:aV B M)(f:X T)(d:k7 X M)(g:B.c.get? T=au)(i:∀Q,M.a.h Q->M.b Q≠T)(s:∃o,M.d.heap.get? T=Y o/\lT o)(j:∃o,N.heap.get? T=Y o)(C:∀P o,P≠T->M.d.heap.get? P=Y o->N.heap.get? P=Y o)(w:N.gens=M.d.gens)(L:N.os=M.d.os):aV B (M.h N)/\a8 X M (M.h N):=by
 have S:a8 X M<|M.h N:=⟨λP o e d p=>C P o (λz=>d<|J z f) e,λP o e=>by
  by_cases z:P=T
  .exact J z j
  .exact⟨o,C P o z e⟩,λQ h=>aK<|aF Q h I,b4 _,λp=>b4 _,λp=>I,λp p p h=>⟨h,I⟩,λp h=>⟨h,I⟩⟩;refine⟨⟨λP o e=>C P o (λz=>by rw[z,g]at e;exact aC e ar)<|R.d P o e,bx w R.j,bx L R.f,λQ x e=>fG.i R d S (λo k=>C _ _ (i Q ⟨x,e⟩) k)<|R.g Q x e,R.r,R.inj,λo e=>?_,R.q,R.m⟩,S⟩
 .haveI:=R.s o e;refine C _ _ (λz=>ay s λy A m=>?_) this;replace this:=A▸z▸this;obtain rfl:=bE this;rcases m with⟨_,_,h⟩|⟨_,h⟩|⟨n,h,_⟩<;>cases h
theorem ek.e{L:U V}(y:f<Z L)(h:aY g v x):ek g (L.set f v) f<|Y x:=λw b=>by refine aM (sU b) λa n=>?_;replace a:=(jp y)▸a;exact az (bE a)<|aF x I h
theorem KY(h:i≠j):c5 (b.set i v) j=c5 b j:=by delta c5;exact J (jo h) I
theorem ek.b(a:f≠j)(h:ek g k j l):ek g (k.set f v) j l:=λw e=>h w<|az (KY a) e
theorem Bj{env:dF}(h:env.scope.kind=hy):(env.scope.kind==.class||(env.scope.kind==.module&&env.locals !=env.globals))=ax:=J h I
theorem oL(z:k3 B a T)(F:cv a T n g)(R:aV B g)(D:a.b.lookup f=Y l)(C:a.d.lookup f=Y .local\/a.d.lookup f=Y d4)(A:aY g v x)(L:l<Z n)(a':∀p,p.a=g.a->aV B p->cv a T (n.set l v) p->a8 (gc a T) g p->P () p.d):bc (a7 B.b B.a) r (storeName T f x) P bP g.d:=by
 revert r f P;revert B a T n g l v x;refine@fk _<|e0 @(letI B:=_;letI a:=_;letI T:=_;letI n:=_;letI g:=_;letI l:=_;letI v:=_;letI x:=_;(e3 ?_:eE _ _ B a T n g l v x));intros;refine ay F.e λk' M b'=>?_;rcases C with C|C
 .refine TY (J F.d C:T.scope.names.lookup f=_) M (λN c' H=>aM (R.l (N:={g.d with heap:=N,toks:=cA g.d+1}) (aK I) F.k z.c F.j (e5 M λo d' e' t s K=>aF o t<|aK ⟨_,_,s⟩) (gi c' λo K K t K=>⟨o,t⟩) (λb o S e=>(H.2 b S).trans e) I I) λX E=>?_)<|Bj F.h;refine a' (g.h _) I X ⟨F.h,F.d,F.f,F.g,F.j,aF _ c' λy j d u=>?_,λy j d u=>?_,F.inj,F.n⟩ E
  .by_cases e:y=f
   .subst e;replace d:=D▸d;refine az (bE d) ?_;simp only[hO];exact ek.e L<|A.f<|E.a R F.k
   .simp only[bf e];exact ek.b (λq=>e<|F.inj y f j d<|az q D)<|(b' y j d u).i R F.k E
  .refine bb ?_;intro p';refine dd (F.b y j d u) λG f' t W g'=>ay W λo s Q=>?_;haveI c:y≠f:=λe=>by subst e;rw[C]at u;refine aE u (λh'=>?_) λh'=>?_<;>cases h'
   haveI h:G≠T.locals:=λe=>by refine e5 M λk d' e' m w K=>?_;replace s:=m▸e▸s;injection s with s;subst s;replace Q:=w▸Q;cases Q
   exact fv G f' t ⟨o,(H.2 G h).trans s,Q⟩<|ek.b (λq=>c<|F.inj y f j d<|q▸D)<|g'.i R F.k E
 .refine dd (F.b f l D<|aK C) λG f' t W g'=>ay W λo s Q=>wpAny_storeName_cell F.h (J F.d C:T.scope.names.lookup f=_) t (aF o s Q) λN i' H=>aM (R.l (N:={g.d with heap:=N}) (a1<|fv f l D C t) F.k (z.b f l G D C t) (R.n s<|v7 Q) (aF o s<|a1<|aK ⟨_,Q⟩) (ay i' λo t K=>⟨o,t⟩) (λb o S e=>(H.2 b S).trans e) I I) λX E=>?_;haveI h:G≠T.locals:=λe=>by refine e5 M λk d' e' m w K=>?_;replace s:=m▸e▸s;obtain rfl:=bE s;replace Q:=w▸Q;cases Q
  refine a' (g.h _) I X ⟨F.h,F.d,F.f,F.g,F.j,aF k' (j8.a.k M λo e=>(H.2 _<|f8 h).trans e) λy j d u=>?_,λy j d u=>?_,F.inj,F.n⟩ E
  .have c:y≠f:=λe=>by induction e;rw[C]at u;exact aC u ar
   exact ek.b (λq=>c<|F.inj y f j d<|q▸D)<|(b' y j d u).i R F.k E
  .by_cases e:y=f
   .induction e;rw[D]at d;exact az (bE d)<|dr G (Y x) t ⟨i',ek.e L<|A.f<|E.a R F.k⟩
   .exact dd (F.b y j d u) λb l' j' W m'=>ay W λk n' o'=>fv b l' j' ⟨k,(H.2 b λq=>e<|F.n y f G (az q j') t).trans n',o'⟩<|ek.b (λq=>e<|F.inj y f j d<|az q D)<|m'.i R F.k E
theorem Aq(y:a.b.lookup b=Y i)(C:a.d.lookup b=Y .local\/a.d.lookup b=Y d4):i3 B a z d (.a i)<|bR b S:=λA env L c v x k Q l f F R M m h=>xQ<|oL f F R y C M h.1 λg e E j p=>⟨g,L.set i v,E,j,p,J e h.2.2⟩
set_option tactic.hygienic true in theorem cv.D{env:dF}{L:U V}{c f:bl}{n:a3 O}{v t:V}(F:cv a env L c)(R:aV B c)(S:a8 ce c f)(z:∀r,n=Y r->c5 L r=Y v)(P:∀s,v=.e s->∀p,aY c v p->aY f t p):cv a env (jc n v t L) f:=by
 induction n using tQ with
 |none=>exact F.i R S
 |some r=>
  induction v using V.casesOn with
  |e s=>
   refine aM (sU<|z r I) λE i=>?_;haveI K:=qf E;have C:∀d A,ek c L d A->ek f (L.set r t) d A:=λd A h=>by
    by_cases g:r=d
    .subst g;intro w G;refine aM (sU G) λX k=>?_;replace X:=(jp K)▸X;refine az (bE X) ?_;refine ay (h _<|z r I) λp u l=>?_;exact aF p u<|P s I p l
    .exact ek.b g<|h.i R (cn c) S
   refine ay F.e λm T H=>?_;exact⟨F.h,F.d,F.f,F.g,(F.i R S).j,aF m (j8.a.k T λo g=>S.p _ _ g (λq=>q) F.j) λp d x b=>C _ _<|H p d x b,λp d x b=>dd (F.b p d x b) λW w u M N=>ay M λo l Q=>fv W w u ⟨o,S.p _ _ l (λq=>q)<|R.n l<|v7 Q,Q⟩<|C _ _ N,F.inj,F.n⟩
  |_=>exact F.i R S
theorem DU(a:b.a.h (.e k))(M:aY b (.e k) x)(d:aY b (.e k) y):y=x:=by cases M with|e _ A=>cases d with|e _ i=>exact J (A a)<|az (i a) I
theorem Oc{N:av}(h:N.l o b (.e k)=Y p):N.h<|.e k:=ay (mu (fi h).2) λl z c=>⟨_,i7 z⟩
theorem gJ.h{N A:av}(d:gJ N x i v w A)(c:v=.e k):N.h<|.e k:=by induction d with|a _ g _ z=>cases bx g.symm c;exact⟨_,i7 z⟩|f _ _ _ P=>subst c;exact be P|b _ _ P=>subst c;exact be P
theorem Od{N:av}(a:N.s x i (.e k)=Y p):N.h<|.e k:=(gJ.l a).h I
theorem GV(l:B.e)(K:i0 B.d)(m:a6 B a z d e M)(T:i9 o i=an):i3 B a z d (.f e o i)<|dT M (eK i) S:=λA env L c v x k Q r p F R g s h=>by
 rw[assign_Attribute];refine aS<|eh<|m.e r F R h λw y a' G t n u q=>bF.b q.2 λb' H C=>Cs q.1 u λc'=>aS<|g7<|aS<|eh<|c3 (Oh l.a K G T (g.i R (cn _) n) H) (λj d' X=>bH X λE D=>Te ?_) λj j h=>h;haveI N:=t.D G D.i s λe' P f' W=>by subst P;exact J (DU (Oc H) (g.i R (cn _) n) W) D.e
 exact D.d▸.mk E _ D.j N (n.i D.i).b (J D.a C)
theorem GW(u:B.e)(C:a6 B a z d e M)(K:a6 B a z d g f)(x:ne f=ax):i3 B a z d (.i e g)<|pb M f S:=λA env L c y Q a' b' m c' F R o N h=>by
 rw[assign_Subscript];refine aS<|eh<|C.e m F R h λd' e' f' G P n T q=>aS<|eh<|K.e m P G q λg' j W r X l E q=>hr q E λj h' q=>bF.b q.2 λi' H k=>aS<|g7<|aS<|eh<|c3 (Om u r (T.i G (cn _) l) ((o.i R (cn _) n).i G (cn _) l) q.1 H) (λs j' p=>bH p λt D=>Te ?_) λs s h=>h;haveI v:=X.D r D.i N λk' w W E=>by subst w;exact J (DU (Od H) ((o.i R (cn _) n).i G (cn _) l) E) D.e
 exact D.d▸.mk t _ D.j v (n.i<|l.i D.i).b (J D.a k)
end
end
mutual
def mg(o:ik):Prop:=(o.cls=bq "list_iterator"\/o.cls=bq "tuple_iterator"\/o.cls=bq "range_iterator")/\∃R,o.data=fo R
theorem mg.b(h:mg o):¬lU o:=λq=>by refine kJ h λp R e=>?_;rcases q with⟨_,_,_,q⟩|⟨_,_,q⟩<;>(replace q:=e▸q;cases q)
end
section
variable{B:bZ}{a:bT}{z:O->a3 bg}{d:O}
mutual
theorem cv.l(F:cv a T L p)(h:p.d.heap.get? r=Y o)(y:mg o):¬gc a T r:=λq=>by
 refine kJ y λf R e=>?_;rcases q with rfl|⟨x,i,A,g,Q⟩
 .refine ay F.e λm S f=>e5 S λj k H b d f=>?_;replace b:=h▸b;injection b with b;subst b;replace d:=e▸d;cases d
 .refine dd (F.b x i A<|aK g) λn v b W f=>ay W λj d P=>?_;replace b:=Q▸b;injection b with b;subst b;replace d:=h▸d;injection d with d;subst d;replace P:=e▸P;cases P
theorem aV.c(R:aV B N)(d:a8 X S N)(D:aV B S)(i:S.d.heap.get? P=au)(G:N.d.heap.get? P=Y o)(g:mg o)(C:∀L o,L≠P->N.d.heap.get? L=Y o->Q.heap.get? L=Y o)(w:Q.gens=N.d.gens)(A:Q.os=N.d.os):aV B (N.h Q)/\a8 X S (N.h Q)/\c6 N (N.h Q):=by
 haveI E:B.c.get? P=au:=by cases q:B.c.get? P with|none=>rfl|some o=>haveI:=D.d _ _ q;rw[i]at this;exact aC this ar
 haveI F:=R.n G g.b;refine bb ?_;intro b;obtain⟨j,n,T⟩:=g;have M:c6 N<|N.h Q:=⟨λa r s e=>C _ _ (λz=>by replace e:=G▸z▸e;injection e with e;subst e;refine aE j (λh=>?_) λk=>aE k (λh=>?_) λh=>?_<;>simp at h) e,λt a L u v a' b' e=>C _ _ (λz=>by rw[z]at e;haveI e:N.d.heap.get? P=_:=e;replace e:=G▸e;obtain rfl:=bE e;refine aE j (λh=>?_) λk=>aE k (λh=>?_) λh=>?_<;>simp at h) e,b4 _,λp=>b4 _,λp=>I,λp p p h=>⟨h,I⟩,λp h=>⟨h,I⟩⟩;haveI m:∀L o,S.d.heap.get? L=Y o->L≠P:=λL o e z=>by rw[z,i]at e;exact aC e ar
 exact aP ⟨λL o e=>C L o (λz=>by rw[z,E]at e;exact aC e ar)<|R.d L o e,bx w R.j,bx A R.f,λl x e=>(R.g l x e).f M λo g=>C _ _ (F l ⟨x,e⟩) g,R.r,R.inj,λo e=>haveI:=R.s o e;C _ _ (λz=>by have z:=z;replace this:=G▸z▸this;injection this with this;subst this;cases T) this,R.q,R.m⟩ ⟨λL o e H K=>C L o (m L o e)<|d.p L o e H K,λL o e=>bH (d.n L o e) λy W=>⟨y,C L y (m L o e) W⟩,d.g,d.d,d.e,d.q,d.m,d.f⟩ M
theorem cv.c(F:cv a T L q)(G:q.d.heap.get? r=Y o)(g:mg o)(C:∀p o,p≠r->q.d.heap.get? p=Y o->X.heap.get? p=Y o)(M:c6 q (q.h X)):cv a T L<|q.h X:=ay F.e λm l P=>kJ g λB R n=>have k:∀j A,ek q L j A->ek (q.h X) L j A:=λj A h w e=>ay (h w e) λx d p=>aF x d<|p.f M;⟨F.h,F.d,F.f,F.g,F.j,aF m (j8.a.k l λo e=>C _ _ (λz=>(F.l G g)<|aK z.symm) e) λx i d p=>k _ _<|P x i d p,(λx i d p=>by refine bb ?_;intro D;refine dd (F.b x i d p) λW v s t u=>ay t λy f Q=>fv W v s ⟨y,C _ _ (λz=>?_) f,Q⟩<|k _ _ u;replace f:=G▸z▸f;obtain rfl:=bE f;replace Q:=n▸Q;cases Q),F.inj,F.n⟩
inductive dm(d:bl):V->aU->O->Prop|c{j:V}{f z:aU}{i:O}:aY d j (aN f)->(∀l,j≠.g l)->(∀a b s,j≠.x a b s)->d.d.heap.IsListIter z f i->dm d j z i|g{l:U V}{f z:aU}{i:O}:aY d (.g l) (aN f)->d.d.heap.IsTupleIter z f i->dm d (.g l) z i|x{a b s e h:am}{z:aU}{i:O}:IsRangeIter (bz d.d) z e h s->((s=1/\e=a+i/\(h=b-e\/h<=0/\b<=e))\/(s=-1/\e=a-i/\(h=e-b\/h<=0/\e<=b)))->dm d (.x a b s) z i
theorem dm.b(h:dm e j f i):∃o,e.d.heap.get? f=Y o/\mg o:=by induction h with|c _ _ _ h=>exact ch h λo A a Q=>aF o A ⟨aK a,_,Q⟩|g _ h=>exact ch h λo A a Q=>aF o A ⟨a1<|aK a,_,Q⟩|x h _=>exact d8 _ h (a1<|a1 I) _ I
theorem dm.p(h:dm f l e i)(M:c6 f j)(k:∀o,f.d.heap.get? e=Y o->j.d.heap.get? e=Y o):dm j l e i:=by induction h with|c A d Q m=>exact .c (A.f M) d Q<|ay m λo a b=>aF o (k o a) b|g A m=>exact .g (A.f M)<|ay m λo a b=>aF o (k o a) b|x A d=>exact .x (k _ A) d
theorem vZ(R:aV B e)(M:aY e i f)(d:∀l,i≠.g l)(w:∀h b s,i≠.x h b s)(j:(e.a.i i).map (λl=>l[0]?)=Y r)(k:∀X,cj e.d X->dm (e.h X) i (aX e.d.heap.objs) 0->P (aN (aX e.d.heap.objs)) X):bc (a7 B.b B.a) A (mI f) P bP e.d:=ay (tR.mp j) λl m p=>BU R M m λW q n o t M=>yh (d8 _ o I _ I)<|k _ (cj.o e.d {cls:=bq "list_iterator",data:=fo #[aN W,cS 0 0]})<|.c (M.f<|(a8.h ce<|cj.o e.d _).a R<|cn _) d w<|bO _ (d2 _ I) I I
theorem CV(h:s=1\/s=-1):EW c b s=if s=1 then(if c<b then b-c else 0)else(if c>b then c-b else 0):=by delta EW;refine aE h (λX=>J X ?_) λX=>J X ?_<;>simp
theorem kk(h:ao b<2^32):Ti b=an:=by delta Ti;simp;exact⟨by omega,by omega⟩
theorem Cf{x y:am}(M:ao x<n)(a:ao y<m)(h:n+m<=k):ao (x+y)<k:=ci (cX (Int.natAbs_add_le x y)<|SP M a) h
theorem Co{x y:am}(M:ao x<n)(a:ao y<m)(h:n+m<=k):ao (x-y)<k:=ci (cX (Int.natAbs_sub_le x y)<|SP M a) h
theorem wk{c:Prop}[jW c]{x y:am}{k:O}(M:ao x<k)(a:ao y<k):ao (if c then x else y)<k:=by
 by_cases h:c
 .exact J (a9 h) M
 .exact J (bf h) a
theorem Ai(a:p=an)(M:q=an)(C:r=an)(D:t=an)(h:u=an):(p&&q&&r&&t&&u)=an:=J a<|J M<|C.symm▸D.symm▸h.symm▸I
theorem CC(h:q=an):(p||q)=an:=by rw[h,Bool.or_true]
theorem NO(h:CU c b s):Uo c b s=an:=by
 refine b6 h λT d A=>?_;haveI e:2^30<=2^32:=as;haveI W:ao (EW c b s)<2^32:=J (CV A)<|wk (wk (Co d T as) as)<|wk (Co T d as) as;rcases A with rfl|rfl
 .exact Ai (kk<|ci T e) (kk<|ci d e) (kk as) (kk W)<|CC<|kk<|Cf (m:=1) d as as
 .exact Ai (kk<|ci T e) (kk<|ci d e) (kk as) (kk W)<|CC<|kk<|Cf (m:=1) d as as
theorem v0(R:aV B c)(M:aY c i f)(m:c.a.q i 0=Y r)(d:∀X,cj c.d X->dm (c.h X) i (aX c.d.heap.objs) 0->P (aN (aX c.d.heap.objs)) X):bc (a7 B.b B.a) A (mI f) P bP c.d:=by
 induction i using V.casesOn with
 |g l=>refine e5 M.n λW v n t u w=>?_;subst t;exact TU (d8 _ u I _ I)<|d _ (cj.o c.d {cls:=bq "tuple_iterator",data:=fo #[aN W,cS 0 0]})<|.g (M.f<|(a8.h ce<|cj.o c.d {cls:=bq "tuple_iterator",data:=fo #[aN W,cS 0 0]}).a R<|cn _)<|bO _ (d2 _ I) I I
 |x q b s=>
  cases M with
  |x o C=>
   refine wpAny_pyIter_range C (NO o)<|d _ (cj.o c.d _)<|.x (d2 _ I)<|J (CV o.2.2) ?_;refine aE o.2.2 (λp=>J p ?_) λp=>J p ?_
   .left;refine aP I (by simp) ?_;skip;by_cases h:q<b
    .refine J (a9 h) ?_;left;rfl
    .refine J (bf h) ?_;right;exact⟨gz _,zr h⟩
   .right;refine aP I (by simp)<|J (bf as) ?_;by_cases h:q>b
    .refine J (a9 h) ?_;left;rfl
    .refine J (bf h) ?_;right;exact⟨gz _,zr h⟩
 |e y=>exact vZ R M ar ar m d
 |j L z=>exact vZ R M ar ar m d
 |k L=>exact vZ R M ar ar m d
 |_=>exact aC m ar
theorem MX{N:av}(d:∀l,c≠.g l)(w:∀e b s,c≠.x e b s)(f:N.q c i=Y r):(N.i c).map (λl=>l[i]?)=Y r:=by induction c using V.casesOn with|g l=>exact be (d _ I)|x e b s=>exact be (w _ _ _ I)|_=>exact f
set_option tactic.hygienic true in theorem sL{A:cR}{q:bl}{n:V}{Q:aU}{y:O}{r:a3 V}{P:a3 aZ->bB->Prop}(R:A.handled=au)(g':aV B q)(h':dm q n Q y)(u:q.a.q n y=Y r)(a':r=au->∀X,(∀j o,j≠Q->q.d.heap.get? j=Y o->X.heap.get? j=Y o)->X.gens=q.d.gens->X.os=q.d.os->P au X)(b':∀v,r=Y v->∀X m,(∀j o,j≠Q->q.d.heap.get? j=Y o->X.heap.get? j=Y o)->X.gens=q.d.gens->X.os=q.d.os->(c6 q (q.h X)->aY (q.h X) v m/\dm (q.h X) n Q (y+1))->P (Y m) X):bc (a7 B.b B.a) A (ud<|aN Q) P bP q.d:=by
 revert n Q y r;revert B A q P;refine@fk _ ?_;refine jJ @(letI B:=_;letI A:=_;letI q:=_;letI P:=_;(jT ?_:is _ _ B A q P));set_option tactic.hygienic false in intros
 cases h' with
 |c C z e' S=>
  rename_i i';refine bb ?_;intro f';refine ay (tR.mp<|MX z e' u) λj' k' E=>?_;refine hw (g'.e C k') λl' c' m' F T W n'=>?_;injection F with F;subst F;induction r with
  |none=>
   haveI:c'[y]?=au:=by rw[Ss]at E;exact tA (by exact zs E<|ex W)
   exact wpAny_pyNext_list_end R S (d8 _ T I _ I) this λG H=>a' I _ (λj o w t=>H j o w t) I I
  |some v=>refine ay (W.g E) λm l d'=>?_;rw[hI]at l;refine wpAny_pyNext_list_item S (d8 _ T I _ I) l λG L N=>b' v I _ m (λj o w t=>(N.2 j w).trans t) I I λM=>⟨d'.f M,.c (C.f M) z e' L⟩
 |g C S=>
  rename_i j' i';haveI E:=bE u;refine bb ?_;intro f';refine e5 C.n λl' c' m' F T W=>?_;injection F with F;subst F;induction r with
  |none=>
   haveI:c'[y]?=au:=by rw[Ss]at E;exact tA (by exact zs E<|ex W)
   exact wpAny_pyNext_tuple_end R S (d8 _ T I _ I) this λG H=>a' I _ (λj o w t=>H j o w t) I I
  |some v=>refine ay (W.g E) λm l d'=>?_;rw[hI]at l;refine wpAny_pyNext_tuple_item S (d8 _ T I _ I) l λG L N=>b' v I _ m (λj o w t=>(N.2 j w).trans t) I I λM=>⟨d'.f M,.g (C.f M) L⟩
 |x C z=>
  rename_i D j s m o';haveI u:(if 0<s then Y (if D+s*y<j then Y (V.a<|D+s*y)else au)else if s<0 then Y (if j<D+s*y then Y (V.a<|D+s*y)else au)else au)=Y r:=u;refine bb ?_;intro f';rcases z with⟨rfl,rfl,z⟩|⟨rfl,rfl,z⟩
  .simp only[Int.zero_lt_one,hO,Ew,ER]at u;by_cases K:D+y<j
   .replace u:=(a9 K)▸u;subst u;refine TW C (aE z (λp=>(aq [1,1,0,1] I:ap 1 3 [.b (.e .a .g) .b,.c .f<|.d .b<|.e .a .g] (.b .i .f)) K p) λp=>(aq [0,1,1] I:ap 1 3 [.b (.e .a .g) .b,.d .b<|.e .a .g] (.b .i .f)) K p.2) λG L N=>b' _ I _ _ (λj o w t=>(N.2 j w).trans t) I I λM=>⟨.a _ _,.x L<|aK<|aP I (by exact@Gr _ _) ?_⟩;left;exact aE z (λp=>(c8 [1,1] [1,0,1] I I:ap 1 3 [.c .a<|.d .b<|.e .f .g] (.c (.d .a .k)<|.d .b<|.h<|.e .f .g)) p) λp=>(c8 [0,1,1] [0,1,1] I I:ap 1 3 [.b (.e .a .g) .b,.d .b<|.e .a .g] (.c (.d .f .k)<|.d .b<|.h<|.e .a .g)) K p.2
   .rw[bf K]at u;induction u;exact TV R C (aE z (λp=>(aq [1,1,1] I:ap 1 3 [.f<|.b (.e .a .g) .b,.c .f<|.d .b<|.e .a .g] (.d .f .i)) K p) λp=>z6 p.1) λG H=>a' I _ (λj o w t=>H j o w t) I I
  .have t:D+-1*(y:am)=D-y:=by omega
   rw[t]at u;simp only[show¬(0:am)< -1 by decide,po,show(-1:am)<0 by decide,hO,ER]at u;by_cases K:j<D-y
   .rw[a9 K]at u;subst u;refine TW C (aE z (λp=>(aq [1,1,0,1] I:ap 1 3 [.b .a<|.d .b .g,.c .f<|.d (.d .b .g) .a] (.b .i .f)) K p) λp=>(aq [0,1,1] I:ap 1 3 [.b .a<|.d .b .g,.d (.d .b .g) .a] (.b .i .f)) K p.2) λG L N=>b' _ I _ _ (λj o w t=>(N.2 j w).trans t) I I λM=>⟨.a _ _,.x L<|a1<|aP I (by exact@Gs _ _) ?_⟩;left;exact aE z (λp=>(c8 [1,1] [1,0,1] I I:ap 1 3 [.c .a<|.d (.d .b .g) .f] (.c (.d .a .k)<|.d (.e (.d .b .g)<|.c<|-1) .f)) p) λp=>(c8 [0,1,1] [0,1,1] I I:ap 1 3 [.b .a<|.d .b .g,.d (.d .b .g) .a] (.c (.d .f .k)<|.d (.e (.d .b .g)<|.c<|-1) .a)) K p.2
   .rw[bf K]at u;subst u;exact TV R C (aE z (λp=>(aq [1,1,1] I:ap 1 3 [.f<|.b .a<|.d .b .g,.c .f<|.d (.d .b .g) .a] (.d .f .i)) K p) λp=>z6 p.1) λG H=>a' I _ (λj o w t=>H j o w t) I I
theorem fF.b(E:aV B e)(d:cv a T L e)(S:a8 ce c e)(h:k0 e f g)(q:Q f L e.a):fF B a T c Q g e.d:=⟨e,L,f,E,d,S.b,h,q⟩
theorem Qx:hV B a z d .e []:=λA T L c Q f g F R h=>yg<|fF.b R F (a8.j _ _) .b h
theorem Qw{N:lO}(s:fS B a z d g N)(r:hV B a z d i m):hV B a z d (.d g i)<|N::m:=λA T L u Q l o F R h=>TN (s.e l o F R h λj n f v E k p t q=>by induction t with|b=>exact xg p<|r A T n j Q l o k E q|d=>exact⟨j,n,_,E,k,p,.d,q⟩|e=>exact⟨j,n,_,E,k,p,.e,q⟩|c P=>exact⟨j,n,_,E,k,p,.c P,q⟩)
theorem Qu{N:lO}(s:fS B a z d b N):hV B a z d b [N]:=λA T L c Q e f F R h=>TN<|c3 (s A T L c _ e f F R h) (λg X p=>by induction g with|next=>exact yg p|_=>exact p) λi i h=>h
theorem QI(b:a6 B a z d e M):fS B a z d (.a e)<|xZ (Y M) S:=λA T L j Q f k F R h=>wpAny_Return_some<|b.e f F R h λl v x E g p i q=>fF.b E g p (.c i) q
theorem QJ:fS B a z d (.a .z)<|xZ au S:=λA T L b Q e f F R h=>wpAny_Return_none<|fF.b R F (a8.j _ _) (.c .z) h
theorem QD:fS B a z d .j<|.Break S:=λA T L c Q b e F R h=>wpAny_Break<|fF.b R F (a8.j _ _) .d h
theorem QE:fS B a z d .k<|E8 S:=λA T L c Q b f F R h=>wpAny_Continue<|fF.b R F (a8.j _ _) .e h
theorem QH(m:eY B a z d e M)(s:hV B a z d f g)(n:hV B a z d b u):fS B a z d (.c e f b)<|.If M g u S:=λA T L o Q i j F R h=>wpAny_If (m.e i F R h λk t E l p q=>by
 induction t
 .exact xg p.b<|n A T L k Q i j l E q
 .exact xg p.b<|s A T L k Q i j l E q)
def lm(e:cC):ba:=jr e.ctorIdx 8||jr e.ctorIdx 9||jr e.ctorIdx 10
theorem w4(h:lm i=ax):rD i m Q T=cG ax:=by revert h;induction i using es<;>first|exact(λp=>I:ax=ax->(cG ax:jv ba)=cG ax)|exact oM
theorem HZ{P:jv Flow->Prop}(q:il)(c:P (cG g2))(A:∀b,P (t7 (qZ [] q) S<|aN b)):P<|t7 e S v:=by
 induction v using ru with
 |ref b=>induction e using es<;>first|exact c|exact A b
 |_=>induction e using es<;>exact c
theorem Nt{P:jv cI->Prop}(q:il)(a:P (cG ()))(A:P (t9 (qZ [] q) i v)):P<|t9 e i v:=by induction e using es<;>first|exact a|exact A
theorem QF(g:a6 B a z d e M)(i:lm M=ax):fS B a z d (.f e)<|rt M S:=λA T L c Q j m F R h=>by
 haveI y:nO T=ax:=by delta nO;refine J F.h ?_;rfl
 refine(?_:bc (a7 B.b B.a) A (do
  nP S
  if nO T then
   printExpr (dU M T)else if<-rD M au S.line T then
   do
    evalThenUse M T λn=>point;
    cG g2 else
   do
    t7 M S (<-dU M T)) _ _ c.d);refine y.symm▸(w4 i).symm▸(aS<|g7 ?_);skip;refine aS<|bC ?_;skip;refine aS<|g.e j F R h λk v x E l p o q=>?_;have D:=fF.b E l p .b q;exact HZ (P:=λx=>bc (a7 B.b B.a) A x _ _ k.d) S (bC D) λr=>aS<|g7<|aS<|Fx<|rz entry_let_go<|bC<|bC D
inductive yy(B:bZ)(a:bT)(T:dF)(c:bl)(W:O->U V->av->Prop)(n:O):bB->Prop|mk(e:bl)(b:U V)(R:aV B e)(F:cv a T b e)(S:a8 (gc a T) c e)(q:W n b e.a):yy B a T c W n e.d
@[elab_as_elim]theorem B0{T:dF}{h g:bl}{w:U V}{f:dk}{L:Flow}{Q:dk->U V->av->Prop}{W:Prop}{P:Flow->Prop}(j:k0 g f L)(E:aV B g)(i:cv a T w g)(S:a8 (gc a T) h g)(q:f.f W (Q .b w g.a) λv=>Q (.c v) w g.a)(k:W->P g2)(H:P g2->P .cont)(l:fF B a T h Q g2 g.d->P .brk)(m:∀v,fF B a T h Q (gp v) g.d->P (gp v)):P L:=by induction j with|b=>exact k q|e=>exact H<|k q|d=>exact l ⟨g,w,_,E,i,S,.b,q⟩|c n=>exact m _ ⟨g,w,_,E,i,S,.c n,q⟩
theorem QL(p:eY B a z d e M)(r:hV B a z d g u):fS B a z d (.h e g)<|.While M u [] S:=by
 revert u S;revert B a z d e M g;refine@hs _<|e0 @(letI B:=_;letI a:=_;letI z:=_;letI d:=_;letI e:=_;letI M:=_;letI g:=_;(e3 ?_:eE _ _ _ B a z d e M g));intros;exactλA T L c Q k v F R i=>bD i λn i=>by
  refine wpAny_While<|codeAny_whileLoop (yy B a T c λn=>oQ (DT<|bA (aO z d) e) (dH (aO z d) g) n Q) (λn s w=>w.casesOn λf x C D H l=>?_) n<|.mk c L R F (a8.j _ _) i;induction n with
  |zero=>exact be l
  |succ n=>
   refine p.e k D C l λW t G y K q=>?_;haveI j:=H.i K.b;induction t
   .exact yg ⟨W,x,_,G,y,j,.b,q⟩
   .exact r.e k v y G q λN P a' b' E m o X q=>B0 X E m (j.i o) q (λq=>aF n (b7 _) ⟨N,P,E,m,j.i o,q⟩) id id λc'=>id
theorem tx(j:i=aN b)(z:s.heap.get? b=Y o)(y:mg o)(h:Q () s):bc (a7 B.b B.a) A (t9 m i v) Q bP s:=by
 refine J j<|kJ y λc R T=>?_;obtain⟨a,d,e,H⟩:=o;simp only at c T;subst T;refine Nt (P:=λx=>bc (a7 B.b B.a) A x _ _ s) m.pos (bC h) ?_;induction v using ru<;>first|exact bC h|skip
 refine aS<|wpAny_load z ?_;refine aE c (λX=>J X ?_) λk=>aE k (λX=>J X ?_) λX=>J X ?_<;>exact bC h
def iA(e:cC):ba:=jr e.ctorIdx 7
theorem sx(h:iA e=ax):∀x,TD e T x=cG x:=λx=>by revert h;induction e using es<;>first|exact(λp=>I:ax=ax->cG x=(cG x:jv _))|exact oM
inductive yu(B:bZ)(a:bT)(T:dF)(c:bl)(b:V)(z:aU)(W:O->O->U V->av->Prop)(n:O):bB->Prop|mk(e:bl)(d:U V)(i:O)(R:aV B e)(F:cv a T d e)(S:a8 (gc a T) c e)(j:dm e b z i)(q:W n i d e.a):yu B a T c b z W n e.d
theorem QG(h':i3 B a z d t l)(i':a6 B a z d e M)(j':hV B a z d j u)(k':iA M=ax):fS B a z d (.g t e j)<|.For l M u [] S:=by
 revert t u S;revert B a z d l M e j;refine@fk _<|e0 @(letI B:=_;letI a:=_;letI z:=_;letI d:=_;letI l:=_;letI M:=_;letI e:=_;letI j:=_;(e3 ?_:eE _ _ B a z d l M e j));intros;exactλN' l' m' c n' w F o' R h=>by
  refine wpAny_For (i'.e w o' R h λW N p' P q' L r' q=>bb ?_)<|sx k';intro O';refine bH q λn q=>?_;haveI s':∃r,W.a.q N 0=Y r:=by induction n with|zero=>exact be q|succ n=>exact ay (bF.a q) λr e Q=>⟨r,e⟩
  refine bH s' λr t'=>v0 P r' t' λX T u'=>?_;have a':c.d.heap.get? (aX W.d.heap.objs)=au:=by cases q:c.d.heap.get? (aX W.d.heap.objs)with|none=>rfl|some v'=>exact bD (L.n _ _ q) λw' x'=>aA (d3 x')<|f5 _
  refine codeAny_forLoop_any (yu B a l' c N (aX W.d.heap.objs) λn i=>m6 N (A1 (iw (aO z d) t)<|dH (aO z d) j) n i n') (λn P' y'=>y'.casesOn λz' A' i f b' c' d' C=>?_) n<|.mk (W.h X) m' 0 (P.h T) (q'.i P<|a8.h _ T) (L.i<|a8.h _ T).b u' q;induction n with
  |zero=>exact be C
  |succ n=>
   refine bF.b C λr B' C=>ay d'.b λQ' y D=>gS<|sL w.a f d' B' (λk X p o s=>b6 (f.c c' R a' y D p o s) λE G H=>?_) λR' k X p' p o s C'=>b6 (f.c c' R a' y D p o s) λE G H=>aM (C' H) λD' e'=>?_
   .subst k;exact yg ⟨z'.h X,A',_,E,b'.c y D p H,G,.b,C⟩
   .subst k;have v:=b'.c y D p H;refine ay e'.b λw' x A=>gS<|tx I x A<|h'.e w F v E D' (λQ h=>by cases h) C λS' T' E' F' G' H'=>j'.e w F F' E' H' λI' J' U' V' f' g' K' L' M'=>?_;have K:=G'.i K';exact B0 L' f' g' (G.i K) M' (λq=>aF n (b7 _) ⟨I',J',i+1,f',g',G.i K,e'.p (K.a E v.k) λv' m=>K.p _ _ m (v.l m (by rw[x]at m;exact az (bE m) A))<|E.n m (by rw[x]at m;exact az (bE m) A.b),q⟩) id id λQ=>id
end
end
mutual
def oj(e:cC):ba:=jr e.ctorIdx 25||jr e.ctorIdx 24
end
section
variable{B:bZ}{a:bT}{z:O->a3 bg}{d:O}
mutual
theorem vI(h:cr t=an):t4 (t::m) T=(ax,pl t T)::t4 m T:=by induction t using es<;>first|rfl|cases h
theorem QZ(h:oj t=ax):mJ [t] v T=cG au:=by revert h;induction t using es<;>first|exact(λp=>I:ax=ax->(cG au:jv (a3<|U aQ))=cG au)|exact oM
def p8(e:cC):ba:=jr e.ctorIdx 23
theorem Q1(h:p8 t=ax):rD i (Y t) Q T=cG ax:=by induction i using es<;>first|exact(I:(cG ax:jv ba)=cG ax)|(revert h;induction t using es<;>first|exact(λp=>I:ax=ax->(cG ax:jv ba)=cG ax)|exact oM)
theorem Q0(h:lm i=ax\/p8 t=ax):rD i (Y t) Q T=cG ax:=aE h w4 Q1
theorem Qd(h:hv e=Y i):e=.c i:=by have k:∀{P:Prop},au=Y i->P:=λh=>aC h ar;revert h;induction e using a5.casesOn<;>first|exactλh=>aW a5.c<|bE h|exact k
theorem Qe{N:av}(h:bA (aO z d) e L Q N):bA (aO z d) e L (λv N=>(∀i,hv e=Y i->c5 L i=Y v)/\Q v N) N:=by cases t:hv e with|none=>exact gV (jz z d) _ _ _ _ _ (λv N h=>⟨ar,h⟩) h|some i=>obtain rfl:=Qd t;exact bF.b h λv a h=>(J a ⟨λj s=>az (bE s) a,h⟩:bF (c5 L i) _)
theorem DJ(D:i3 B a z d t k)(g:a6 B a z d e M)(i:lm M=ax\/p8 k=ax)(j:cr k=an)(W:∀T,T.scope.kind=hy->T.scope.names=a.d->mJ [k] M T=cG au):fS B a z d (.b t e)<|mE [k] M S:=λA T L c Q f l F R h=>by rw[exec_Assign];exact aS<|g7<|J (show TJ [k] M S.line T=cG ax from Q0 i)<|aS<|bC<|J (bf as)<|aS<|g.e f F R (Qe h) λu v x G y n m q=>J (W T F.h F.d)<|aS<|bC<|J (vI j)<|aS<|D.e f l y G m q.1 q.2 λo w E p r s=>bC ⟨o,w,_,E,p,n.b.i r,.b,s⟩
theorem DH(D:i3 B a z d t k)(c:a6 B a z d e M)(f:lm M=ax\/p8 k=ax)(A:cr k=an)(W:oj k=ax):fS B a z d (.b t e)<|mE [k] M S:=DJ D c f A λp p p=>QZ W
def nZ(B:bZ)(a:bT)(z:O->a3 bg)(d:O)(t:fT)(b:U cC):Prop:=t.k=Z b/\b.all cr=an/\∀(A:cR)(T:dF)(L:U V)(c:bl)(l:U V)(R:U aZ)(Q:U V->av->Prop),da A d->k3 B a T->cv a T L c->aV B c->bm c l R->iw (aO z d) t (.g l) au Q L c.a->bc (a7 B.b B.a) A (assignInOrder ((t4 b T).map (·.2)) R) (λp X=>lW B a T c Q X) bP c.d
theorem G0:nZ B a z d .d []:=aP I I λA T L c l b Q e f F R x h=>bC ⟨c,L,R,F,a8.j _ _,h.2⟩
theorem GZ(s:i3 B a z d f e)(j:nZ B a z d g m)(k:cr e=an):nZ B a z d (.b f g)<|e::m:=⟨aW di j.1,eS.mpr ⟨k,j.2.1⟩,λA T L c l C Q n o F R t h=>by induction l with|nil=>exact be h|cons v l _=>exact i6 t λx r M D=>(vI k).symm▸(aS<|eh<|s.e n o F R M (λi u=>aC u ar) h.2 λW w G y q S=>c3 (j.2.2 A T w W l r Q n o y G (D.i R F.k q) S) (λi i p=>lW.i q p) λi i h=>h)⟩
theorem H1{T:dF}(c:U cC):c.all cr=an->Z (t4 c T)=Z c/\(t4 c T).findIdx? (·.1)=au:=by induction c with|nil=>exactλp=>⟨I,I⟩|cons e r d=>exactλh=>aM (eS.mp h) λA i=>J (vI A)<|aM (d i) λa b=>⟨by simp[a],by simp[List.findIdx?_cons,b]⟩
theorem oz{v:V}{G:Prop}(q:v.s f)(k:∀x l,v=.g (x::l)->f x l->G):G:=by
 induction v using V.casesOn with
 |g l=>induction l with|nil=>exact be q|cons x l _=>exact k x l I q
 |_=>exact be q
theorem Ar(D:nZ B a z d (.b j f) i):i3 B a z d (.b j f)<|e7 i k S:=λA T L c v x K Q q s F R M N h=>oz h λy l t h=>by subst t;exact nx M λW X n u r=>(aM (H1 i D.2.1) λw C=>(Tb q.a (d8 _ u I _ I) ((J w (J (ex r) (D.1▸(aW (·+1) h.1.symm))))) C λE G=>have g:=⟨λf o e=>G f o (λH=>f5 _<|H▸d3 e) e,I,I⟩;c3 (D.2.2 A T L (c.h {c.d with heap:=E}) _ _ Q q s (F.i R<|a8.h ce g) (R.h g) (r.i R (cn _)<|a8.h ce g) h) (λm m p=>lW.i (a8.h ce g).b p) λm m h=>h))
set_option backward.match.sparseCases true in def kC(K:U (aQ×lM))(a D:U cC):U aQ:=let Q:=(a.head?.map (·.pos.line)).getD 0;a.filterMap λ|bR e S=>if K.lookup e==Y .local&&S.line==Q then Y e else au|_=>au
theorem Bz{α:Type}{c:Prop}[jW c]{a b x:α}(A:a=x)(i:¬c->b=x):(if c then a else b)=x:=by
 by_cases q:c
 .exact J (a9 q) A
 .exact J (bf q)<|i q
theorem p9{α:Type}{c:Prop}[jW c]{a b x:α}(A:¬c)(i:b=x):(if c then a else b)=x:=(bf A).trans i
theorem n9(h:b=ax):¬b=an:=λq=>aC (bx h.symm q) ar
theorem Nr(h:¬(!e||b||c)=an):e=an:=by induction e with|true=>rfl|false=>exact aA I h
theorem QW(h:((Z b==2||Z b==3)=ax)\/(Z (kC a.d b D)!=Z b)=an)(P:D.all cr=an):∀T,T.scope.kind=hy->T.scope.names=a.d->mJ [e7 b k p] (e7 D G E) T=cG au:=λT C x=>by refine Bz I λA=>Bz I λc=>a9 ?_;refine aE h (λh=>aA (Nr A)<|n9 h) λh=>(J x<|J h ?_:(Z (kC T.scope.names b D)!=Z b||Z (kC T.scope.names b D).eraseDups !=Z (kC T.scope.names b D))=an);rfl
theorem QX(h:oj y=ax):∀T,mJ [e7 b k p] y T=cG au:=λT=>by revert h;induction y using es<;>first|exact(λa=>I:ax=ax->(cG au:jv (a3<|U aQ))=cG au)|exact oM
set_option backward.match.sparseCases true in theorem QY{b D:U cC}{k p G E}{K:U aQ}(d:(Z b==2||Z b==3)=an)(P:(Z D==Z b)=an)(f:D.all cr=an)(e:kC a.d b D=K)(A:(Z K==Z b)=an)(i:(Z K.eraseDups==Z K)=an)(Q:D.all (TC 8)=ax)(g:D.all (TA 8)=ax):∀T:dF,T.scope.kind=hy->T.scope.names=a.d->mJ [e7 b k p] (e7 D G E) T=cG (Y K):=λT C c=>by
 haveI j:(T.blockKind !=hy)=ax:=by unfold Tl;refine J C ?_;rfl
 haveI l:(D.any λ|.Starred ..=>an|_=>ax)=ax:=by rw[xr];intro x M;haveI:=gl.mp f x M;induction x using es<;>first|exactλh=>nD h|exact be (nD this)
 haveI m:(!(Z b==2||Z b==3)||Z D !=Z b||T.blockKind !=hy)=ax:=by refine J d<|J j ?_;simp only[bne,P];rfl
 refine p9 (n9 m)<|p9 (n9 l)<|p9 (n9 ?_)<|p9 (n9 Q)<|p9 (n9 g)<|aW (λx=>(cG<|Y x:jv (a3<|U aQ))) (by rw[c];exact e:kC T.scope.names b D=K);refine(?_:(Z (kC T.scope.names b D)!=Z b||Z (kC T.scope.names b D).eraseDups !=Z (kC T.scope.names b D))=ax);refine J (by rw[c];exact e:kC T.scope.names b D=K) ?_;simp only[bne,A,i];rfl
theorem D3(a:A.handled=au)(R:aV B c)(M:aY c (.g l) x)(d:n=Z l)(k:∀X f,cj c.d X->bm c l f->P f X):bc (a7 B.b B.a) A (unpackItems x n au) P bP c.d:=e5 M.n λW q m h j i=>J h<|d.symm▸(ex i)▸(unpackItems_tuple a ⟨_,j,I,_,I⟩ λr p=>k _ _ ⟨λb o e=>p b o (λz=>f5 _<|z▸d3 e) e,I,I⟩ i)
theorem QB(P:a6 B a z d e (e7 D G E))(u:a.b.lookup x=Y f)(C:a.b.lookup y=Y j)(X:a.d.lookup x=Y .local)(c:a.d.lookup y=Y .local)(h:x≠y)(v:hv e=au)(w:∀T,T.scope.kind=hy->T.scope.names=a.d->mJ [e7 [bR x l,bR y r] k p] (e7 D G E) T=cG (Y [x,y])):fS B a z d (.b (.b (.a f)<|.b (.a j) .d) e)<|mE [e7 [bR x l,bR y r] k p] (e7 D G E) S:=λt' T u' v' w' H K F R A=>by refine S8 (P.e H F R A λW x' y' m L Q a' q=>?_) I<|w T F.h F.d;replace q:=v▸q;refine oz q λz' A' b' q=>oz q.2.2.2 λB' C' o c'=>bb ?_;intro D';subst b';injection o with o;subst o;refine en c'.2 λd' E' s e'=>?_;injection s with s;subst s;refine D3 H.a m a' I λf' F' g g'=>i6 g' λG' H' h' t=>i6 t λI' J' i' t=>qk t ?_;have n:a8 ce W<|W.h f':=a8.h _ g;haveI M:=L.i m n;haveI j':f≠j:=λk'=>h<|F.inj x y f u<|J k' C;exact aS<|eh<|tT<|oL K M (m.h g) C (aK c) (i'.i m (cn _) n) (by simpa using d') λK' l' m' n' N=>aS<|eh<|tT<|oL K n' m' u (aK X) ((h'.i m (cn _) n).i (m.h g) M.k N) (by simpa using q.2.1) λo' p' q' r' s'=>bC<|.mk o' _ .b q' r' ((Q.i n).b.i<|N.i s') .b<|p'▸l'▸(J (qS _ _ j'.symm) e')
theorem QC{l j m:O}{x y f:aQ}{o r s}{D:U cC}{e:a5}{k p G E S}(e':a6 B a z d e (e7 D G E))(H:a.b.lookup x=Y l)(K:a.b.lookup y=Y j)(M:a.b.lookup f=Y m)(f':a.d.lookup x=Y .local)(g':a.d.lookup y=Y .local)(h':a.d.lookup f=Y .local)(i':x≠y)(j':x≠f)(k':y≠f)(l':hv e=au)(m':∀T,T.scope.kind=hy->T.scope.names=a.d->mJ [e7 [bR x o,bR y r,bR f s] k p] (e7 D G E) T=cG (Y [x,y,f])):fS B a z d (.b (.b (.a l)<|.b (.a j)<|.b (.a m) .d) e)<|mE [e7 [bR x o,bR y r,bR f s] k p] (e7 D G E) S:=by revert B a z d l j m x y f o r s D e k p G E S;refine@qt _<|h0 @(letI B:=_;letI a:=_;letI z:=_;letI d:=_;letI l:=_;letI j:=_;letI m:=_;letI x:=_;letI y:=_;letI f:=_;letI o:=_;letI r:=_;letI s:=_;letI D:=_;letI e:=_;letI k:=_;letI p:=_;letI G:=_;letI E:=_;letI S:=_;(ic ?_:he _ _ _ _ _ _ B a z d l j m x y f o r s D e k p G E S));intros;exactλM' T L N' O' h N F n' o'=>by refine S8 (e'.e h F n' o' λv P' Q' n p' q' r' q=>?_) I<|m' T F.h F.d;replace q:=l'▸q;refine oz q λw R' s' q=>oz q.2.2.2 λA S' P Q=>bb ?_;intro t';subst s';injection P with P;subst P;refine oz Q.2.2.2 λR T' u u'=>bb ?_;intro t';injection u with u;subst u;refine en u'.2 λv' U' W w'=>?_;injection W with W;subst W;refine D3 h.a n r' I λx' V' a' y'=>i6 y' λW' X' z' t=>i6 t λY' Z' A' t=>i6 t λaa' ab' B' t=>qk t ?_;haveI X:=n.h a';haveI C:a8 ce v<|v.h x':=a8.h _ a';have c:=p'.i n C;haveI C':l≠j:=λf=>i'<|F.inj x y l H<|J f K;haveI D':j≠m:=λq=>k'<|F.inj y f j K<|q▸M;exact aS<|eh<|tT<|oL N c X M (aK h') (B'.i n (cn _) C) (by simpa using v') λac' u b' c' g=>aS<|eh<|tT<|oL N c' b' K (aK g') ((A'.i n (cn _) C).i X c.k g) (by simpa using Q.2.1) λad' E' F' G' d'=>aS<|eh<|tT<|oL N G' F' H (aK f') (((z'.i n (cn _) C).i X c.k g).i b' c'.k d') (by simpa using q.2.1) λH' I' J' K' L'=>bC<|.mk H' _ .b J' K' ((q'.i C).b.i<|g.i<|d'.i L') .b<|I'.symm▸E'.symm▸u.symm▸(J (J (qS _ _ C'.symm)<|J (qS _ _ (show l≠m fromλq=>j'<|F.inj x f l H<|q▸M).symm)<|J (qS _ _ D'.symm) I:((L.set m R).set j A).set l w=((L.set l w).set j A).set m R) w')
theorem DI(D:nZ B a z d (.b f g) c)(h:a6 B a z d e y)(i:lm y=ax)(t:hv e=au)(W:∀T,T.scope.kind=hy->T.scope.names=a.d->mJ [e7 c k p] y T=cG au):fS B a z d (.b (.b f g) e)<|mE [e7 c k p] y S:=DJ (Ar D) h (aK i) I W
end
end
section
variable{B:bZ}
mutual
theorem aV.E{c F:bl}{d:aU}{x:b8}{X:aU->Prop}(R:aV B c)(G:x.d)(N:∀o,c.a.h o->c.b o≠d)(W:fG B c d x)(q:a8 X F c)(l:B.c.get? d=au)(a':(∃L,F.a.h L/\F.b L=d)\/F.d.heap.get? d=au):aV B (c.u c.d d x)/\a8 X F (c.u c.d d x)/\c6 c (c.u c.d d x)/\∀o,(c.u c.d d x).a.h o->(c.u c.d d x).b o=d\/∃L,c.a.h L/\c.b L=(c.u c.d d x).b o:=by
 revert B c F d x X;refine@kx _<|e0 @(letI B:=_;letI c:=_;letI F:=_;letI d:=_;letI x:=_;letI X:=_;(e3 ?_:eE _ _ _ _ B c F d x X));intros;have M:c6 c<|c.u c.d d x:=by refine⟨λp p p i=>i,λp p p p p p p i=>i,cO _,λp=>b4 _,λp=>I,λo p w m=>?_,λp h=>⟨h,I⟩⟩;induction o with|e k=>refine bH m λy s=>?_;haveI s:(c.a.b x).g (.e k)=Y y:=s;rw[l8 G]at s;simp only[bf (bj w)]at s;exact⟨⟨y,s⟩,(J (bf<|bj w) I:(if k=c.a.d then d else c.b (.e k))=_)⟩|b _ _=>exact⟨m,I⟩|a _ _ _=>exact⟨m,I⟩|f _=>exact be w
 have t:∀o,(c.u c.d d x).a.h o->((c.u c.d d x).b o=d/\o=.e c.a.d)\/(c.a.h o/\(c.u c.d d x).b o=c.b o/\∀y,(c.u c.d d x).a.g o=Y y->c.a.g o=Y y):=λo m=>by
  obtain⟨y,s⟩:=m;have D:(c.a.b x).g o=Y y:=s;rw[l8 G]at D;induction o with
  |e k=>
   by_cases C:k=c.a.d
   .left;exact J C ⟨(J (a9 I) I:(if c.a.d=c.a.d then d else _)=d),I⟩
   .right;simp only[bf C]at D;refine⟨⟨y,D⟩,(J (bf C) I:(if k=c.a.d then d else c.b (.e k))=_),λz u=>?_⟩;haveI P:(c.a.b x).g (.e k)=Y z:=u;rw[l8 G]at P;simpa only[bf C]using P
  |b _ _=>right;exact aP ⟨y,D⟩ I λz u=>u
  |a _ _ _=>right;exact aP ⟨y,D⟩ I λz u=>u
  |f _=>right;exact aP ⟨y,D⟩ I λz u=>u
 refine bV ⟨R.d,R.j,R.f,λo y i=>?_,λo m=>aE (t o m) (λj=>aM j λr v=>J r l) λj=>b6 j λA n Q=>J n<|R.r o A,λo H m b' i=>?_,R.s,λk C=>?_,R.m⟩ ⟨q.p,q.n,λo m=>aE (t o m) (λj=>aM j λr v=>J r a') λj=>b6 j λA n Q=>J n<|q.g o A,aH q.d<|cO _,q.e,q.q,λo i w m=>?_,q.f⟩ M λo m=>(t o m).imp (λh=>h.1) λh=>⟨o,h.1,h.2.1.symm⟩
 .rcases t o ⟨y,i⟩with⟨r,v⟩|⟨A,n,Q⟩
  .subst v;haveI K:(c.a.b x).g (.e c.a.d)=Y y:=i;rw[l8 G]at K;simp only[hO]at K;exact az (bE K)<|J r<|W.f M λp i=>i
  .exact J n<|(R.g o y<|Q y i).f M λp i=>i
 .refine aE (t o m) (λj=>aM j λr v=>?_) λj=>b6 j λA n p=>?_<;>refine aE (t H b') (λj=>aM j λc' d'=>?_) λj=>b6 j λS T p=>?_
  .exact J v<|az d' I
  .rw[r,T]at i;exact aA i.symm<|N H S
  .rw[n,c']at i;exact aA i<|N o A
  .rw[n,T]at i;exact R.inj o H A S i
 .refine(?_:aw c.a.a c.a.d (Y x) k=au);delta aw;exact J (bf (by exact zv C))<|R.q k<|zw C
 .refine aE (t o m) (λj=>aM j λr v=>?_) λj=>b6 j λA n Q=>?_
  .subst v;exact aA q.d<|(aq [1,1] I:ap 2 0 [.e .a .b] (.f<|.g .b .a)) w
  .haveI:=q.m o i w A;exact⟨this.1,bx n this.2⟩
theorem aV.C(R:aV B L)(e:x.d)(z:∀M,L.a.h M->L.b M≠a)(s:fG B L a x)(f:a8 X N L)(D:aV B N)(d:N.d.heap.get? a=au):aV B (L.u L.d a x)/\a8 X N (L.u L.d a x)/\c6 L (L.u L.d a x)/\∀M,(L.u L.d a x).a.h M->(L.u L.d a x).b M=a\/∃P,L.a.h P/\L.b P=(L.u L.d a x).b M:=R.E e z s f (by cases q:B.c.get? a with|none=>rfl|some o=>haveI:=D.d _ _ q;rw[d]at this;exact aC this ar)<|a1 d
end
end
section
variable{prog:g3}{w:fB}{A:cR}{R:ju->bB->Prop}{s:bB}
mutual
@[reducible]def AY(n:O)(z:O->bB->Prop):bB->Prop:=λs=>∃m,m<n/\z m s
@[reducible]def AD(R:ju->bB->Prop)(c:Code)(P:bB->Prop):pc->bB->Prop:=λD X=>match D with|pd f=>R (fJ f) X|.again e=>e=c/\P X
theorem vD(z:O->bB->Prop)(l:∀n s,z n s->bc (a7 prog w) A (Fg (fq p a t S) r i b T) (AD R (kW (fq p a t S) r i b T)<|AY n z) (yb (a7 prog w) A T λe X=>R (jX e) X) s)(n:O)(h:z n s):f9 (a7 prog w) A (kW (fq p a t S) r i b T) R s:=codeAny_loop I z (λn s G=>wpAny_noted<|l n s G) n h
theorem AM(f:a[r]?=Y ⟨t,F,M,0⟩)(q:f9 (a7 prog w) A (kW (fq p a b S) r i c T) R s)(h:bc (a7 prog w) A (mI i) (λG X=>f9 (a7 prog w) A (kW (fq p a b S) r G c T) R X) (yb (a7 prog w) A T λx X=>R (jX x) X) s):f9 (a7 prog w) A (EY (fq p a b S) r i c T) R s:=by
 refine Ff<|wpAny_notedAt ?_;delta compStart;refine J f<|aS<|pn<|wpAny_ite ?_;split
 .first|exact aS<|bC<|bC<|xk I q|exact wpAny_pure<|And.intro rfl q
 .first|exact aS<|ug<|aS<|g7<|aS<|c3 h (λG X d=>bC<|xk I d) λe e x=>x|(exact wpAny_bind<|wpAny_rule<|wpAny_bind<|wpAny_standAt<|wpAny_bind<|wpAny_mono h (λG X d=>wpAny_pure<|And.intro rfl d) λe e x=>x)
theorem HG(b t F c a:cC)(d:j4)(S:il)(i h:aZ)(T:dF):Fg (fq b [⟨t,F,[],0⟩,⟨c,a,[],0⟩] d S) 0 i h T=(nP F.pos>>=λp=>ud i>>=λr=>match r with|au=>cG<|pd g2|Y v=>t9 t i v>>=λp=>pl t T v>>=λp=>(dU a T>>=λx=>nP a.pos>>=λp=>TD a T x>>=λx=>holding [x] (mI x)>>=λG=>runOwn (EY (fq b [⟨t,F,[],0⟩,⟨c,a,[],0⟩] d S) 1 G h T) T>>=λp=>again (kW (fq b [⟨t,F,[],0⟩,⟨c,a,[],0⟩] d S) 0 i h T))):=I
theorem HH(b t F a c:cC)(d:j4)(S:il)(i h:aZ)(T:dF):Fg (fq b [⟨t,F,[],0⟩,⟨a,c,[],0⟩] d S) 1 i h T=(nP c.pos>>=λp=>ud i>>=λr=>match r with|au=>cG<|pd g2|Y v=>t9 a i v>>=λp=>pl a T v>>=λp=>(dU b T>>=λx=>e9 (cH "list.append") [h,x]>>=λp=>cG ())>>=λp=>again (kW (fq b [⟨t,F,[],0⟩,⟨a,c,[],0⟩] d S) 1 i h T)):=I
end
end
mutual
def hp(c:bl)(b:aU):Prop:=c.d.heap.get? b=au
theorem a8.u(S:a8 (hp l) l r):a8 ce l r:=S.o λp h=>a1 h
end
section
variable{B:bZ}{a:bT}{z:O->a3 bg}{d:O}
mutual
structure dG(B:bZ)(a:bT)(s:dF)(D:aU)(W:bl)(h L:U V)(c:bl):Prop where
 j:aV B c
 f:cv a s L c
 i:a8 (hp W) W c
 g:∃T n,c.d.heap.get? D=Y (h8 T n)/\bm c h (cx T)
 d:∀l,c.a.h l->c.b l≠D
 b:hp W s.locals
 e:hp W D
theorem qm(S:a8 X c b)(n:c.d.heap.get? D=Y o)(h:∀l,c.a.h l->c.b l≠D):∀l,b.a.h l->b.b l≠D:=λl x e=>by
 refine aE (S.g l x) (λa=>ay a λi d f=>h i d<|bx f e) λq=>?_
 .rw[e,n]at q;exact aC q ar
theorem dG.l(C:dG B a s D W p L r)(E:aV B m)(S:a8 ce r m):dG B a s D W p L m:=cF C.g λX n A i=>⟨E,C.f.i C.j S,C.i.i<|S.k λb h=>be h,dr X n (S.p _ _ A (λq=>q) C.d)<|i.i C.j (cn _) S,qm S A C.d,C.b,C.e⟩
theorem f3{c:bl}{a:aU}{o:ik}(h:c.d.heap.get? a=Y o)(T:lT o):k7 (·=a) c:=λb e y z=>by subst e;replace z:=h▸z;exact az (bE z) T
theorem oq(R:aV B W)(h:hp W b):B.c.get? b=au:=by cases q:B.c.get? b with|none=>rfl|some o=>haveI:=R.d _ _ q;rw[h]at this;exact aC this ar
theorem dG.o(C:dG B a t D W E L q)(Q:aV B W)(R:aY q v x)(S:Z E<bi)(k:∀r y,dG B a t D W (E++[v]) L r->c6 q r->(∀p s,p≠D->q.d.heap.get? p=Y s->r.d.heap.get? p=Y s)->r.a=q.a->P y r.d):bc (a7 B.b B.a) A (e9 (cH "list.append") [aN D,x]) P bP q.d:=by
 refine cF C.g λG n d K=>call_meets To (aF _ d I) PySem.F.entry_list_append (PySem.F.args_list_append_2 _ _) (list_append D G n x<|zx S (ex K) (I:lP=bi)) ⟨d,bb ?_⟩;intro b;refine bH (oi d (·.push x) (cA q.d)) λc H=>?_;have T:lT<|h8 G n:=a1<|a1<|bO "list" I as as;refine aM (C.j.l (X:=(·=D)) I (f3 d T) (oq Q C.e) C.d (aF _ d T) ⟨_,H.g⟩ H.i H.j H.f) λh f=>ay C.f.e λm M w=>?_;haveI z:D≠t.locals:=λe=>by refine e5 M λi' j' k' j a' l'=>?_;replace j:=d▸e.symm▸j;injection j with j;subst j;cases a'
 refine k (q.h _) _ ⟨h,⟨C.f.h,C.f.d,C.f.f,C.f.g,C.f.j,aF m (j8.a.k M λs e=>H.i _ _ (f8 z) e) λy l F p=>(w y l F p).i C.j (f3 d T) f,λy l F p=>?_,C.f.inj,C.f.n⟩,C.i.i<|f.k λp b'=>J b' C.e,dr _ c H.g ?_,qm f d C.d,C.b,C.e⟩ (f.a C.j<|f3 d T) H.i I
 .refine bb ?_;intro b;exact dd (C.f.b y l F p) λc' d' e' f' g'=>ay f' λs g N=>⟨c',d',e',⟨s,H.i _ _ (λh'=>by replace g:=d▸h'▸g;injection g with g;subst g;cases N) g,N⟩,g'.i C.j (f3 d T) f⟩
 .exact J xl<|(K.f<|f.a C.j<|f3 d T).u<|R.f<|f.a C.j<|f3 d T
theorem dG.c(C:dG B a s D W t L m)(g:aV B W)(h:hp W q)(G:m.d.heap.get? q=Y p)(z:mg p)(d:∀r p,r≠q->m.d.heap.get? r=Y p->X.heap.get? r=Y p)(w:X.gens=m.d.gens)(i:X.os=m.d.os):dG B a s D W t L (m.h X)/\c6 m (m.h X):=by
 refine bb ?_;intro v;refine b6 (C.j.c C.i g h G z d w i) λE j f=>cF C.g λk n A l=>?_;haveI u:D≠q:=λe=>by replace A:=G▸e▸A;obtain rfl:=bE A;refine kJ z λx R e=>?_;cases e
 exact⟨⟨E,C.f.c G z d f,j,dr k n (d _ _ u A)<|l.f f,C.d,C.b,C.e⟩,f⟩
theorem dG.k(C:dG B a t D W H L r)(a':aV B W)(S:a.b.lookup u=Y G)(o:a.d.lookup u=Y .local)(b':aY r v x)(c':G<Z L)(d':∀E,E.a=r.a->dG B a t D W H (L.set G v) E->c6 r E->(∀s p,s≠t.locals->r.d.heap.get? s=Y p->E.d.heap.get? s=Y p)->P () E.d):bc (a7 B.b B.a) A (storeName t u x) P bP r.d:=by
 refine ay C.f.e λu' w e'=>TY (J C.f.d o:t.scope.names.lookup u=_) w (λf' z K=>bb ?_)<|Bj C.f.h;intro g';refine e5 (id w) λp v' w' d b c=>?_;have T:lT p:=aK<|fu _ _ b;refine aM (C.j.l (N:={r.d with heap:=f',toks:=cA r.d+1}) (X:=(·=t.locals)) I (f3 d T) (oq a' C.b) C.f.j (aF p d T) (gi z λp c c N c=>⟨p,N⟩) (λs p m e=>(K.2 s m).trans e) I I) λh' Q=>?_;have M:=Q.a C.j<|f3 d T;refine cF C.g λi' j' N k'=>?_;haveI l':D≠t.locals:=λe=>by replace d:=N▸e.symm▸d;injection d with d;subst d;cases b
 have F:=C.f;refine d' (r.h _) I ⟨h',⟨F.h,F.d,F.f,F.g,F.j,aF _ z λy j f g=>?_,λy j f g=>?_,F.inj,F.n⟩,C.i.i<|Q.k λs h=>J h C.b,dr i' j' ((K.2 _ l').trans N)<|k'.f M,C.d,C.b,C.e⟩ M λs p m e=>(K.2 s m).trans e
 .by_cases e:y=u
  .subst e;replace f:=S▸f;refine az (bE f) ?_;simp only[hO];exact ek.e c'<|b'.f M
  .simp only[bf e];exact ek.b (λq=>e<|F.inj y u j f<|az q S)<|(e' y j f g).i C.j (f3 d T) Q
 .refine bb ?_;intro g';refine dd (F.b y j f g) λn m' n' o' p'=>ay o' λq' l R=>?_;haveI r':y≠u:=λe=>by subst e;replace g:=o▸g;refine aE g (λh=>?_) λh=>?_<;>cases h
  haveI t':n≠t.locals:=λe=>by replace l:=d▸e▸l;injection l with l;subst l;replace R:=b▸R;cases R
  exact fv n m' n' ⟨q',(K.2 n t').trans l,R⟩<|ek.b (λq=>r'<|F.inj y u j f<|az q S)<|p'.i C.j (f3 d T) Q
end
end
mutual
def jG(T:dF):U (aQ×lM)->U (aQ×aU)->U (aQ×aU)|[],H=>H|(n,k)::r,H=>if k==ez then jG T r ((n,(T.cells.lookup n).getD 0)::H)else jG T r H
theorem vy:jG T ((n,k)::r) H=if(k==ez)=an then jG T r ((n,(T.cells.lookup n).getD 0)::H)else jG T r H:=I
theorem AG(h:∀x∈t.names,x.2=ez->∃c,T.cells.lookup x.1=Y c):closureFor t T=cG (jG T t.names []):=by
 revert t T;refine@kx _<|jJ @(letI t:=_;letI T:=_;(jT ?_:is _ _ _ _ t T));intros;skip;haveI D:∀l H,(∀x∈l,x.2=ez->∃c,T.cells.lookup x.1=Y c)->(forIn l H λx r=>match x with
  |(A,v)=>if(v==ez)=an then do
   let K<-cellOf T A;
   cG (R0<|(A,K)::r)else cG (R0 r):jv (U<|aQ×aU))=cG (jG T l H):=by
  intro l;induction l with
  |nil=>exactλH _=>I
  |cons x r d=>
   intro H b;obtain⟨n,k⟩:=x;rw[List.forIn_cons];rw[vy];by_cases C:(k==ez)=an
   .refine bH (b (n,k) (bu ..)<|gk C) λc s=>?_;simp only[C,hO];refine J (show cellOf T n=cG c from by unfold cellOf;exact J s I) ?_;simp only[pure_bind];exact J (d _ λx M=>b x<|cm _ M)<|J s I
   .simp only[C,po,nC];skip;exact d _ λx M=>b x<|cm _ M
 exact(aW (λm:jv<|U<|aQ×aU=>m>>=λH=>cG H)<|D t.names [] h).trans I
theorem AF:∀{H:U (aQ×aU)},(∀x∈l,x.2=ez->∃c,T.cells.lookup x.1=Y c)->(jG T l H).lookup f=Y c->T.cells.lookup f=Y c\/H.lookup f=Y c:=by
 induction l with
 |nil=>exactλp h=>a1 h
 |cons j r g=>
  obtain⟨n,k⟩:=j;intro H d h;rw[vy]at h;by_cases C:(k==ez)=an
  .replace h:=(a9 C)▸h;rcases g (λx M=>d x<|cm _ M) h with h|h
   .exact aK h
   .rw[jq]at h;split at h
    .rename_i e;refine bH (d (n,k) (bu ..)<|gk C) λb i=>haveI e:=gk e;J e ?_;replace h:=i▸h;exact aK<|bx i h
    .exact a1 h
  .rw[bf C]at h;exact g (λx M=>d x<|cm _ M) h
theorem Hz:∀{H:U (aQ×aU)},(∀x∈l,x.2=ez->∃e,T.cells.lookup x.1=Y e)->(H.lookup c=T.cells.lookup c\/(c,ez)∈l)->(jG T l H).lookup c=T.cells.lookup c:=by
 induction l with
 |nil=>
  intro H m h;rcases h with h|h
  .exact h
  .refine bb ?_;intro p;cases h
 |cons g r f=>
  obtain⟨n,k⟩:=g;intro H d h;rw[vy];by_cases C:(k==ez)=an
  .refine J (a9 C) ?_;haveI i:=gk C;subst i;refine f (λx M=>d x<|cm _ M) ?_;by_cases E:c=n
   .subst E;left;refine bH (d (c,ez) (bu ..) I) λb j=>?_;skip;refine J jq ?_;simp[j]
   .rcases h with h|h
    .left;refine J jq ?_;haveI:(c==n)=ax:=by simpa using E
     exact J this h
    .rcases cu.mp h with h|h
     .refine bb ?_;intro p;injection h with h;subst h;exact aA I E
     .exact a1 h
  .refine J (bf C)<|f (λx M=>d x<|cm _ M) ?_;rcases h with h|h
   .exact aK h
   .rcases cu.mp h with h|h
    .cases h;exact aA I C
    .exact a1 h
structure nT(a:bT)(t:j4)(b:bT)(l:U O):Prop where
 h:t.kind=hy
 d:b.d=t.names.map λ(n,k)=>if(k==ez&&a.d.lookup n==Y d4)then(n,d4)else(n,k)
 c:∀x∈t.names,x.2=.local->t.names.lookup x.1=Y .local
 g:∀x∈t.names,x.2≠d4
 e:∀x∈t.names,x.2=ez->∃j,a.b.lookup x.1=Y j/\(a.d.lookup x.1=Y d4\/a.d.lookup x.1=Y ez)
 f:∀z j,b.b.lookup z=Y j->(b.d.lookup z=Y .local/\j∈l)\/(j∉l/\a.b.lookup z=Y j/\(z,ez)∈t.names/\(a.d.lookup z=Y d4\/a.d.lookup z=Y ez)/\b.d.lookup z≠Y .local)
 inj:∀x y i,b.b.lookup x=Y i->b.b.lookup y=Y i->x=y
def kh(L:U V):U O->U V|[]=>L|i::r=>kh (L.set i .d) r
theorem AE:∀{L:U V},j∉c->(kh L c)[j]?=L[j]?:=by induction c with|nil=>exactλp=>I|cons i r d=>intro L h;exact J (d λz=>h<|cm _ z)<|J (jo λz=>h (by exact J z<|bu ..)) I
theorem Hy:∀{L:U V},j∈c->c5 (kh L c) j=au:=by
 induction c with
 |nil=>exactλh=>aC h ar
 |cons i r b=>
  intro L h;refine(aE (eo<|j∈r) (λs=>b s) λs=>?_:c5 (kh (L.set i .d) r) j=au)
  .haveI:j=i:=aE (cu.mp h) (λh=>h) λh=>aA h s;refine az this ?_;delta c5;exact J (AE s)<|aE (f6 j (Z L)) (λa=>J (jp a) I) λa=>J (gX (by simpa using a)) I
theorem KX(h:j∉c):c5 (kh L c) j=c5 L j:=by delta c5;exact J (AE h) I
end
section
variable{B:bZ}{a b:bT}{z:O->a3 bg}{d:O}
mutual
theorem cv.y(F:cv a T L m)(u:nT a t b q)(k:m.d.heap.Ns C (λp=>au))(n:∀o,m.a.h o->m.b o≠C):cv b (compEnvC t (jG T t.names []) C T) (kh L q) m:=by
 have f:∀x∈t.names,x.2=ez->∃e,T.cells.lookup x.1=Y e:=λx M r=>by refine bb ?_;intro s;exact ay (u.e x M r) λj A d=>cF (F.b x.1 j A d) λe p Q p=>⟨e,Q⟩
 refine⟨u.h,?_,F.f,F.g,n,aF _ k λx i A d=>?_,λx i A d=>?_,u.inj,λx z e A d=>?_⟩
 .refine(?_:(relabel t T).names=_);skip;refine J u.d ?_;apply kQ;intro x _;haveI:T.kindOf x.1=a.d.lookup x.1:=(J F.d I:T.scope.names.lookup _=_);simp only[F.h,this];simp
 .refine aE (u.f x i A) (λX=>aM X λp B=>?_) λX=>en X λg p h D=>aA d D.2
  .intro v P;rw[Hy B]at P;exact aC P ar
 .refine bb ?_;intro s;refine aE (u.f x i A) (λX=>aM X λE p=>?_) λX=>tz X λg G h H p=>dd (F.b x i G H) λe v K N R=>fv e v (J (Hz f<|a1 h) K) N λw S=>R w<|az (KX g) S
  .refine aE d (λd=>?_) λd=>?_<;>rw[E]at d<;>exact be (nomatch d:bW)
 .refine aE (AF f A) (λA=>?_) λA=>?_
  .refine aE (AF f d) (λd=>F.n x z e A d) λd=>?_
   .cases d
  .cases A
def nS(B:bZ)(a:bT)(m:cC)(l:V->U V->(U V->Prop)->Prop):Prop:=∀(A:cR)(s:dF)(D:aU)(W:bl)(h L:U V)(c:bl)(v:V)(x:aZ)(K:U V->Prop)(P:cI->bB->Prop),A.handled=au->dG B a s D W h L c->aV B W->aY c v x->l v L K->(∀e n,e.a=c.a->dG B a s D W h n e->K n->c6 c e->(∀b o,b≠s.locals->c.d.heap.get? b=Y o->e.d.heap.get? b=Y o)->P () e.d)->bc (a7 B.b B.a) A (pl m s x) P bP c.d
def Hf(i:O)(v:V)(L:U V)(K:U V->Prop):Prop:=i<Z L/\K (L.set i v)
def Hg(i j:O)(v:V)(L:U V)(K:U V->Prop):Prop:=∃x y,v=.g [x,y]/\i<Z L/\j<Z L/\K ((L.set i x).set j y)
theorem c6.i(n:c6 c j)(p:c6 j L):c6 c L where
 g s y z w:=p.g _ _ _<|n.g s y z w
 x r s y z t u v w:=p.x _ _ _ _ _ _ _<|n.x r s y z t u v w
 d:=aH n.d p.d
 e l:=aH (n.e l)<|p.e l
 q k:=(p.q k).trans<|n.q k
 m l w A D:=by
  haveI E:nq j.a.d l:=by induction l with|e k=>exact ci A n.d|b _ _=>trivial|a _ _ _=>trivial|f _=>exact A
  exact aM (p.m l (zt w (n.e l)<|p.e l) E D) λs y=>aM (n.m l (zu w (n.e l)<|p.e l) A s) λB C=>⟨B,bx y C⟩
 f o h:=aM (n.f o h) λs y=>aM (p.f o s) λB C=>⟨B,bx C y⟩
theorem ss(y:a.b.lookup f=Y i)(d:a.d.lookup f=Y .local):nS B a (bR f S)<|Hf i:=λA l D W m L c v x K P n C G g b k=>xQ<|C.k G y d g b.1 λh e j M s=>k h _ e j b.2 M s
theorem dG.h(C:dG B a s D W n L m)(g:cj m.d X):dG B a s D W n L<|m.h X:=C.l (C.j.h g)<|a8.h _ g
theorem HV(y:a.b.lookup h=Y i)(s:a.d.lookup h=Y .local)(N:a.b.lookup W=Y j)(u:a.d.lookup W=Y .local):nS B a (e7 [bR h p,bR W E] l S)<|Hg i j:=λg' h' i' j' k' l' c m' n' o' p' w C G F m H=>by refine oS m λq' r' Q R T X=>?_;subst Q;refine e5 F.n λs' n t' v x q=>J v<|Tb w (d8 _ x I _ I) (J (ex q) I) I λz A=>have g:cj c.d {c.d with heap:=z}:=⟨λd o e=>A d o (λh=>f5 _<|h▸d3 e) e,I,I⟩;have r:=(a8.h ce g).a C.j<|cn _;bb ?_;intro u';obtain⟨v'⟩:=n;simp only at q⊢;cases q with|b D t=>cases t with|b K t=>cases t;exact aS<|eh<|xQ<|(C.h g).k G y s (D.f r) R λw' e L M P=>aS<|eh<|xQ<|L.k G N u ((K.f r).f M) (by simpa using T) λa' b' c' d' e'=>bC<|H a' _ (bx b' e) c' X (r.i<|M.i d') λd o m f'=>e' d o m<|P d o m<|g.p d o f'
def Q4(C:ei)(M:a3 a5)(p:a5)(L h:U V)(K:U V->av->Prop)(N:av):Prop:=match M with|au=>bA C p L (λx A=>K (h++[x]) A) N|Y c=>bA C c L (wn λb A=>ix b (bA C p L (λx G=>K (h++[x]) G) A)<|K h A) N
inductive uC(B:bZ)(a:bT)(z:O->a3 bg)(d:O):a3 a5->U cC->Prop|z:uC B a z d au []|C{c:a5}{e:cC}:eY B a z d c e->uC B a z d (Y c) [e]
theorem sP(C:dG B a s D W l L c)(h:dm c j k i)(M:c6 c g)(d:∀f o,f≠s.locals->c.d.heap.get? f=Y o->g.d.heap.get? f=Y o):dm g j k i:=ay h.b λo A m=>h.p M λy z=>d _ _ (λe=>C.f.l A m<|aK e) z
theorem mj(R:aV B c)(h:dm c e f i)(S:a8 ce c g):dm g e f i:=ay h.b λo A a=>h.p (S.a R<|cn _) λy z=>S.p _ _ z (λq=>q)<|R.n A a.b
theorem v3(C:dG B a s D W l L c)(h:dm c j k i)(M:c6 c g)(d:∀f o,f≠D->c.d.heap.get? f=Y o->g.d.heap.get? f=Y o):dm g j k i:=by refine ay h.b λo A m=>h.p M λy z=>d _ _ (λe=>cF C.g λq n X p=>?_) z;replace X:=A▸e.symm▸X;obtain rfl:=bE X;refine kJ m λp R e=>?_;cases e
theorem AO{A:cR}{s:dF}{D:aU}{W c:bl}{b L:U V}{p:a5}{m:cC}{n:V}{r:aU}{i:O}{K:U V->av->Prop}{P:cI->bB->Prop}(t:da A d)(G:aV B W)(u:a6 B a z d p m)(C:dG B a s D W b L c)(w:dm c n r i)(F:Z b<bi)(h:bA (aO z d) p L (λx j=>K (b++[x]) j) c.a)(k:∀f g,dG B a s D W g L f->dm f n r i->K g f.a->P () f.d):bc (a7 B.b B.a) A (do
 let _<-e9 (cH "list.append") [aN D,<-dU m s]) P bP c.d:=aS<|u.e t C.f C.j h λS v x E T l H q=>aS<|(C.l E l).o G H F λN y Q M R e=>bC<|k N _ Q (v3 (C.l E l) (mj C.j w l) M R)<|J e q
@[reducible]def nm(a:V)(l:V->U V->(U V->av->Prop)->av->Prop)(Q:U V->av->Prop):O->O->U V->av->Prop:=λn i h=>iC a l n i h Q
inductive pq(B:bZ)(a:bT)(s:dF)(D:aU)(b:bl)(i:V)(z:aU)(c:U V->Prop)(W:O->O->U V->av->Prop)(n:O):bB->Prop|mk(e:bl)(d f:U V)(g:O)(C:dG B a s D b d f e)(j:dm e i z g)(h:c f)(q:W n g d e.a):pq B a s D b i z c W n e.d
theorem vE{R m S:cC}{x:U cC}{o':j4}{p':il}{T:V->U V->(U V->Prop)->Prop}{M:a3 a5}{X:a5}(q':nS B a R T)(r':uC B a z d M x)(a':a6 B a z d X S){A:cR}(G:da A d){p:dF}{D:aU}{W:bl}(H:aV B W){o:V}{y:aU}(b':hp W y)(E:U V->Prop){t:V->U V->(U V->av->Prop)->av->Prop}(s':∀v u j N e,E e->t v u j N->T v e (λl=>E l/\Z u<bi/\Q4 (aO z d) M X l u j N)){Q:U V->av->Prop}{b:ju->bB->Prop}(t':∀f g e,dG B a p D W g e f->Q g f.a->b (fJ g2) f.d){n i:O}{u L:U V}{c:bl}(C':dG B a p D W u L c)(D':dm c o y i)(E':E L)(F':iC o t n i u Q c.a):f9 (a7 B.b B.a) A (kW (fq S [⟨R,m,x,0⟩] o' p') 0 (aN y) (aN D) p) b c.d:=by
 revert x o' p' M q' r' a' G H b' s' t' n;revert B a z d R m S T X A p D W o y E t Q b i u L c;refine@hs _<|h0 @(letI B:=_;letI a:=_;letI z:=_;letI d:=_;letI R:=_;letI m:=_;letI S:=_;letI T:=_;letI X:=_;letI A:=_;letI p:=_;letI D:=_;letI W:=_;letI o:=_;letI y:=_;letI E:=_;letI t:=_;letI Q:=_;letI b:=_;letI i:=_;letI u:=_;letI L:=_;letI c:=_;(ic ?_:he _ _ _ B a z d R m S T X A p D W o y E t Q b i u L c));intros;refine vD (pq B a p D W o y E<|nm o t Q) (λn X' G'=>G'.casesOn λf g e h c' u' H' k=>?_) n<|.mk c u L i C' D' E' F';induction n with
 |zero=>exact be k
 |succ n=>
  refine bF.b k λY' I' k=>ay u'.b λZ' v' w'=>?_;rw[compTurn_list];refine aS<|g7<|aS<|gS<|sL G.a c'.j u' I' (λd' e' f' g' h'=>?_) λv d' e' J' f' g' h' K'=>aM (c'.c H b' v' w' f' g' h') λx' i'=>aM (K' i') λL' y'=>ay y'.b λaa' M' N'=>?_
  .subst d';exact bC<|t' (f.h e') _ _ (c'.c H b' v' w' f' g' h').1 k
  .subst d';refine aS<|gS<|tx I M' N'<|aS<|gS<|q' A p D W g e (f.h e') v J' _ _ G.a x' H L' (s' v g _ _ e H' k) λO' z' P' F r i' Q'=>?_;have j':=sP x' y' i' Q';haveI k':=r.2.2;rw[<-show O'.a=f.a from P']at k';have l':∀(w:bl)(P:U V),dG B a p D W P z' w->dm w o y (h+1)->iC o t n (h+1) P Q w.a->∃A',A'<n+1/\pq B a p D W o y E (nm o t Q) A' w.d:=λw P m' n' q=>aF n (b7 _) ⟨w,P,z',h+1,m',n',r.1,q⟩;induction r' with|z=>exact aS<|wpAny_tests_nil<|(a9 I).symm▸(aS<|gS<|AO (K:=nm o t Q n<|h+1) G H a' F j' r.2.1 k' λw P m' n' q=>bC ⟨I,l' w P m' n' q⟩)|C R'=>refine aS<|wpAny_tests_one<|R'.e G F.f F.j k' λw S' B' ab' s q=>?_;induction S' with|false=>exact bC ⟨I,l' w g (F.l B' s) (mj F.j j' s) q⟩|true=>exact aS<|gS<|AO (K:=nm o t Q n<|h+1) G H a' (F.l B' s) (mj F.j j' s) r.2.1 q λT' U' V' W' q=>bC ⟨I,l' T' U' V' W' q⟩
theorem HM{K:U V->av->Prop}(H:da A d)(N:aV B W)(Q:a6 B a z d p l)(C:dG B a s D W g L c)(R:dm c m n i)(S:dm c F r t)(T:Z g<bi)(h:bA (aO z d) p L (λx u=>K (g++[x]) u) c.a)(k:∀f j,dG B a s D W j L f->dm f m n i->dm f F r t->K j f.a->P () f.d):bc (a7 B.b B.a) A (dU l s>>=λx=>e9 (cH "list.append") [aN D,x]>>=λw=>cG ()) P bP c.d:=aS<|Q.e H C.f C.j h λa' b' x E c' b X q=>aS<|(C.l E b).o N X T λe d' v M G y=>bC<|k e _ v (v3 (C.l E b) (mj C.j R b) M G) (v3 (C.l E b) (mj C.j S b) M G)<|J y q
theorem BJ(h:dm c j f i)(G:f≠k)(M:c6 c g)(C:∀e o,e≠k->c.d.heap.get? e=Y o->g.d.heap.get? e=Y o):dm g j f i:=h.p M λo z=>C _ _ G z
inductive yp(B:bZ)(a:bT)(s:dF)(D:aU)(b:bl)(i:V)(z:aU)(F:V)(c:aU)(L:O)(d:U V->Prop)(W:O->O->U V->av->Prop)(n:O):bB->Prop|mk(e:bl)(f g:U V)(h:O)(C:dG B a s D b f g e)(j:dm e i z h)(H:dm e F c L)(k:d g)(q:W n h f e.a):yp B a s D b i z F c L d W n e.d
theorem HO{t0 iter0 H iter P:cC}{scope:j4}{W:il}{R:V->U V->(U V->Prop)->Prop}{S:a5}(e':nS B a H R)(f':a6 B a z d S P){A:cR}(q:da A d){p:dF}{D:aU}{o:bl}(T:aV B o){w F:V}{t y:aU}{E:O}(r:hp o t)(s:y≠t)(u:U V->Prop){G:V->U V->(U V->av->Prop)->av->Prop}(g':∀v b j N e,u e->G v b j N->R v e (λl=>u l/\Z b<bi/\bA (aO z d) S l (λx m=>j (b++[x]) m) N)){Q:U V->av->Prop}{RR:ju->bB->Prop}(h':∀f g e,dG B a p D o g e f->u e->dm f F y E->Q g f.a->RR (fJ g2) f.d){n i:O}{b L:U V}{c:bl}(q':dG B a p D o b L c)(r':dm c w t i)(s':dm c F y E)(t':u L)(u':iC w G n i b Q c.a):f9 (a7 B.b B.a) A (kW (fq P [⟨t0,iter0,[],0⟩,⟨H,iter,[],0⟩] scope W) 1 (aN t) (aN D) p) RR c.d:=by
 revert z e' f' q T r s g' h' t0 iter0 iter scope W d;revert B a H P R S A p D o w F t y E u G Q RR n i b L c;refine@fk _<|h0 @(letI B:=_;letI a:=_;letI H:=_;letI P:=_;letI R:=_;letI S:=_;letI A:=_;letI p:=_;letI D:=_;letI o:=_;letI w:=_;letI F:=_;letI t:=_;letI y:=_;letI E:=_;letI u:=_;letI G:=_;letI Q:=_;letI RR:=_;letI n:=_;letI i:=_;letI b:=_;letI L:=_;letI c:=_;(ic ?_:he _ _ B a H P R S A p D o w F t y E u G Q RR n i b L c));intros;refine vD (yp B a p D o w t F y E u<|nm w G Q) (λn N' v'=>v'.casesOn λf g e w' C i' j' k' X=>?_) n<|.mk c b L i q' r' s' t' u';induction n with
 |zero=>exact be X
 |succ n=>
  refine bF.b X λO' x' X=>ay i'.b λP' l' m'=>?_;rw[HH];refine aS<|g7<|aS<|gS<|sL q.a C.j i' x' (λK a' h b' c'=>?_) λv K a' x h b' c' y'=>aM (C.c T r l' m' h b' c') λk M=>aM (y' M) λz' n'=>ay n'.b λQ' A' B'=>?_
  .refine bb ?_;intro R';subst K;exact aM (C.c T r l' m' h b' c') λk M=>bC<|h' (f.h a') _ _ k k' (BJ j' s M h) X
  .subst K;have C':=BJ j' s M h;refine aS<|gS<|tx I A' B'<|aS<|gS<|e' A p D o g e (f.h a') v x _ _ q.a k T z' (g' v g _ _ e k' X) λD' E' F' G' d' M o'=>?_;haveI p':=d'.2.2;rw[<-show D'.a=f.a from F']at p';exact aS<|gS<|HM q T f' G' (sP k n' M o') (sP k C' M o') d'.2.1 p' λH' I' J' K' L' M'=>bC<|md I n (b7 _) ⟨H',I',E',w'+1,J',K',L',d'.1,M'⟩
theorem By(h:dm e j f i)(k:P (aN f) e.d):bc (a7 B.b B.a) A (mI<|aN f) P bP e.d:=by induction h with|c _ _ _ h=>exact wpAny_pyIter_listiter h k|g _ h=>exact wpAny_pyIter_tupleiter h k|x h _=>exact wpAny_pyIter_rangeiter h k
@[reducible]def Kk(B:bZ)(A:cR)(s:dF)(c:Code)(a:ju->bB->Prop)(P:bB->Prop):ju->bB->Prop:=λr X=>match r with|fJ f=>bc (a7 B.b B.a) A (again c) (AD a c P) (yb (a7 B.b B.a) A s λe X=>a (jX e) X) X|jX e=>cameBackBy (a7 B.b B.a) A s (yb (a7 B.b B.a) A s λe X=>a (jX e) X) e X
theorem HP{T e g P C:cC}{h:j4}{i:il}{b' c':V->U V->(U V->Prop)->Prop}{d' e':a5}(r':nS B a T b')(s':nS B a g c')(t':a6 B a z d e' P)(u':iA P=ax)(v':a6 B a z d d' C){A:cR}(q:da A d){F:dF}{D:aU}{W:bl}(r:aV B W){G:V}{H:aU}(f':hp W H)(R:U V->Prop)(S:V->U V->Prop){X:V->U V->(U V->av->Prop)->av->Prop}{inner:V->V->U V->(U V->av->Prop)->av->Prop}(w':∀v b j N f,R f->X v b j N->b' v f (λp=>S v p/\bA (aO z d) e' p (λu E=>∃m,iC u (inner v) m 0 b j E) N))(x':∀v w b j N f,S v f->inner v w b j N->c' w f (λp=>S v p/\Z b<bi/\bA (aO z d) d' p (λx E=>j (b++[x]) E) N))(y':∀v f,S v f->R f){Q:U V->av->Prop}{k:ju->bB->Prop}(z':∀l t f,dG B a F D W t f l->Q t l.a->k (fJ g2) l.d){n o:O}{b L:U V}{c:bl}(P':dG B a F D W b L c)(Q':dm c G H o)(R':R L)(S':iC G X n o b Q c.a):f9 (a7 B.b B.a) A (kW (fq C [⟨T,e,[],0⟩,⟨g,P,[],0⟩] h i) 0 (aN H) (aN D) F) k c.d:=by
 revert b' c' d' e' r' s' t' u' v' q r f' inner w' x' y' z' L z C;revert B a d T e g P h i A F D W G H R S X Q k n o b c;refine@fk _<|h0 @(letI B:=_;letI a:=_;letI d:=_;letI T:=_;letI e:=_;letI g:=_;letI P:=_;letI h:=_;letI i:=_;letI A:=_;letI F:=_;letI D:=_;letI W:=_;letI G:=_;letI H:=_;letI R:=_;letI S:=_;letI X:=_;letI Q:=_;letI k:=_;letI n:=_;letI o:=_;letI b:=_;letI c:=_;(ic ?_:he _ _ B a d T e g P h i A F D W G H R S X Q k n o b c));intros;refine vD (pq B a F D W G H R<|nm G X Q) (λn as' T'=>T'.casesOn λl t f U' g' A' V' s=>?_) n<|.mk c b L o P' Q' R' S';induction n with
 |zero=>exact be s
 |succ n=>
  refine bF.b s λK W' s=>ay A'.b λat' B' C'=>?_;rw[HG];refine aS<|g7<|aS<|gS<|sL q.a g'.j A' W' (λh' M i' j' k'=>?_) λv h' M x i' j' k' X'=>aM (g'.c r f' B' C' i' j' k') λD' l'=>aM (X' l') λY' E'=>ay E'.b λF' Z' aa'=>?_
  .subst h';exact bC<|z' (l.h M) _ _ (g'.c r f' B' C' i' j' k').1 s
  .subst h';refine aS<|gS<|tx I Z' aa'<|aS<|gS<|r' A F D W t f (l.h M) v x _ _ q.a D' r Y' (w' v t _ _ f V' s) λab' au' m' a' G' l' ac'=>?_;haveI m':ab'.a=l.a:=m';haveI H':=G'.2;rw[<-m']at H';refine aS<|t'.e q a'.f a'.j H' λn' u ad' o' av' I' ae' y=>bD y λm y=>haveI J':=a'.l o' I';haveI K':=mj a'.j (sP D' E' l' ac') I';aS<|g7<|aS<|rI (sx u' ad') ?_;haveI af':∃K,n'.a.q u 0=Y K:=by induction m with|zero=>exact be y|succ n=>exact bF.b y λK p' ag'=>⟨K,p'⟩
   refine bD af' λaw' ah'=>aS<|eh<|gS<|v0 o' ae' ah' λM L' M'=>?_;haveI ai':hp W (aX n'.d.heap.objs):=by cases N':W.d.heap.get? (aX n'.d.heap.objs)with|none=>exact N'|some ax'=>exact bD (J'.i.n _ _ N') λF' aj'=>aA (d3 aj')<|f5 _
   haveI O':=HO (t0:=T) (iter0:=e) (iter:=P) (scope:=h) (W:=i) s' v' q r ai' (λp'=>ay K'.b λF' q' ag'=>aA (d3<|p'▸q')<|f5 _) (S v) (λw b j N f q' ak'=>x' v w b j N f q' ak') (RR:=Kk B A F (kW (fq C [⟨T,e,[],0⟩,⟨g,P,[],0⟩] h i) 0 (aN H) (aN D) F) k<|AY (n+1)<|pq B a F D W G H R<|nm G X Q) (λal' am' an' ao' ap' aq' ar'=>bC<|md I n (b7 _) ⟨al',am',an',U'+1,ao',aq',y' _ _ ap',ar'⟩) (J'.h L') M' (mj o' K'<|a8.h _ L') G'.1 y;exact aS<|wpAny_runOwn<|AM I O'<|gS<|By M' O'
def rR(B:bZ)(b:bT)(d:O)(a:cC)(w:U tW)(t:j4)(S:il)(L:U V)(i:V)(N:av)(Q:U V->av->Prop):Prop:=∀(A:cR)(s:dF)(D:aU)(W:bl)(z:aU)(c:bl)(X:ju->bB->Prop),da A d->aV B W->hp W z->dG B b s D W [] L c->dm c i z 0->c.a=N->(∀e q n,dG B b s D W q n e->Q q e.a->X (fJ g2) e.d)->f9 (a7 B.b B.a) A (kW (fq a w t S) 0 (aN z) (aN D) s) X c.d
theorem JR(S:a8 X c e):hp c (aX e.d.heap.objs):=by cases z:c.d.heap.get? (aX e.d.heap.objs)with|none=>exact z|some o=>exact bH (S.n _ _ z) λy k=>aA (d3 k)<|f5 _
theorem AN(P:nT a f b u)(l':da A d)(m':cv a T L c)(R:aV B c)(n':aY c k x)(o':c.a.q k 0=Y r)(p':rR B b d v (⟨t,w,M,0⟩::E) f S (kh L u) k c.a Q){c':aZ->aU->ju->bB->Prop}(q':∀D C s j m n,s.locals=C->dG B b s D c m n j->Q m j.a->c' (aN D) C (fJ g2) j.d):bc (a7 B.b B.a) A (mI x) (λk H=>bc (a7 B.b B.a) A (newList []) (λp G=>bc (a7 B.b B.a) A (newFunctionEnv f T.globals (jG T f.names []) [] T.qual au dL<|Y T) (λs N=>f9 (a7 B.b B.a) A (EY (fq v (⟨t,w,M,0⟩::E) f S) 0 k p {s with scope:=relabel f T}) (c' p s.locals) N) bP G) bP H) bP c.d:=by
 refine v0 R n' o' λX g r'=>rH (wpAny_newFunctionEnv P.g (by intro z' s';cases s') (λW d' o=>?_) P.h)<|f7 _;dsimp only at d' o⊢;haveI e':=JR (a8.h _ g:a8 ce c (c.h X));haveI q:aX (co X.heap {cls:=bq "list",data:=c9 (c1 ([]:U aZ))}).objs=aX X.heap.objs+1:=q6 ..;have F:cj X {X with heap:=W,toks:=cA X+0}:=⟨λt' f' e=>by refine(o.2 t' λz=>?_).trans<|dJ _<|dJ _ e;replace e:=q▸z▸e;exact aA (d3 e)<|kV.mpr<|cO _,I,I⟩;haveI g':a8 ce c<|(c.h X).h {X with heap:=W,toks:=cA X+0}:=(a8.h _ g).i<|a8.h _ F;have h':hp c (aX (co X.heap {cls:=bq "list",data:=c9 (c1 [])}).objs):=by refine J q ?_;cases z:c.d.heap.get? (aX X.heap.objs+1)with|none=>exact z|some f'=>exact aA (d3<|g.p _ _ z)<|kV.mpr<|cO _
 have i':∀l,c.a.h l->∀a',hp c a'->c.b l≠a':=λl K a' u' e=>by refine ay (R.b K) λf' b' v'=>?_;rw[e]at b';rw[u']at b';exact aC b' ar
 haveI j':=mj (R.h g) r'<|a8.h _ F;haveI k':=p' A _ _ c _ _ _ l' R aV.k ⟨(R.h g).h F,(m'.i R g').y P d' λl K=>i' l K _ h',g'.k λv' w'=>be w',dr (#[]) 0 ((o.2 _<|J q<|bj<|b7 _).trans<|dJ _<|d2 _ I:W.get? (aX X.heap.objs)=Y (h8 #[] 0)) .d,λl K=>i' l K _ e',h',e'⟩ j' I λj m n x' y'=>q' _ _ _ j m n I x' y';exact AM I k'<|gS<|By j' k'
theorem aV.w{c F:bl}{X:aU->Prop}{a:aU}{o:ik}{i:j2}(R:aV B c)(d:a8 X F c)(D:aV B F)(k:hp F a)(j:c.d.heap.get? a=Y o)(T:∃N P,o.data=.dict N P)(y:∀L,c.a.h L->c.b L≠a)(g:E3 a (bz c.d) i):aV B (c.h {c.d with heap:=i})/\a8 X F (c.h {c.d with heap:=i})/\c6 c (c.h {c.d with heap:=i}):=by
 refine bb ?_;intro K;obtain⟨N,Q,T⟩:=T;have M:c6 c<|c.h {c.d with heap:=i}:=⟨λb S P e=>(g.2 _ (λz=>by replace e:=j▸z▸e;injection e with e;subst e;cases T)).trans e,λr b e s t u v q=>(g.2 _ (λz=>by haveI q:c.d.heap.get? r=_:=q;replace q:=j▸z▸q;obtain rfl:=bE q;cases T)).trans q,b4 _,λp=>b4 _,λp=>I,λp p p h=>⟨h,I⟩,λp h=>⟨h,I⟩⟩;haveI m:∀b o,F.d.heap.get? b=Y o->b≠a:=λb o e z=>by rw[z]at e;rw[show F.d.heap.get? a=au from k]at e;exact aC e ar
 exact⟨⟨λb o e=>(g.2 b (λz=>by rw[z,oq D k]at e;exact aC e ar)).trans<|R.d b o e,R.j,R.f,λL x e=>(R.g L x e).f M λo A=>(g.2 _<|y L ⟨x,e⟩).trans A,R.r,R.inj,λo e=>haveI:=R.s o e;(g.2 _ (λz=>by have z:c.c o=a:=z;replace this:=j▸z▸this;injection this with this;subst this;cases T)).trans this,R.q,R.m⟩,⟨λb o e C E=>(g.2 b<|m b o e).trans<|d.p b o e C E,λb o e=>bH (d.n b o e) λG H=>⟨G,(g.2 b<|m b o e).trans H⟩,d.g,d.d,d.e,d.q,d.m,d.f⟩,M⟩
theorem ON(H:nT a g b l)(C:a6 B a z d p f)(R:iA f=ax)(a':∀L Q N,bA (aO z d) s L Q N->bA (aO z d) p L (λG i=>(∃r,i.q G 0=Y r)/\rR B b d u (⟨t,f,M,0⟩::v) g S (kh L l) G i (λw k=>Q (.e k.d)<|k.b<|.e w)) N):a6 B a z d s<|fq u (⟨t,f,M,0⟩::v) g S:=λB' C' L b' Q m F c' d'=>by
 haveI e':=AG λW X f'=>ay (H.e W X f') λg' K c=>cF (F.b W.1 g' K c) λh' E i' E=>⟨h',i'⟩;rw[eval_ListComp];refine TM I (sx R) e' H.h H.c<|C.e m F c' (a' L Q b'.a d') λD' G W h j' k' X q=>bb ?_;intro l';refine aM q λm' q=>?_;obtain⟨r,n'⟩:=m';refine AN H m j' h X n' q λD E' o' j p' F' n y q'=>ay y.f.e λr' o E=>aF r' (az n o) λG' P=>bb ?_;intro l';refine cF y.g λs' t' K c=>e5 (id o) λH' I' J' T A E=>?_;haveI u':D≠o'.locals:=λv'=>by replace T:=K▸v'.symm▸T;obtain rfl:=bE T;cases A
 replace P:=n.symm▸P;exact b6 (y.j.w y.i h y.b T (fu _ _ A) y.f.j P) λw' x' y'=>en (w'.C (x:=.e p') bk y.d (dr s' t' ((P.2 _ u').trans K)<|c.f y') x' h y.e) λz' A' K' E=>.mk _ (.e j.a.d) z' (k'.i A'.u) (.e (b7 _) λE=>(J (a9 I) I:D=(if j.a.d=j.a.d then D else _))) q'
theorem QA{t M j':cC}{j:U cC}{l:U tW}{m:j4}{F:il}{K':U O}{a' L':a5}{E:aQ}{q:O}{e' M'}(k':nT a m b K')(W':a6 B a z d L' M)(X':iA M=ax)(Y':a.b.lookup E=Y q)(l':a.d.lookup E=Y .local)(Z':hv a'=au)(aa':(e'.line==F.line&&!(m.names.any λ(n,k)=>n==E&&(k==.local||k==d4)))=an)(ab':∀L Q N,bA (aO z d) a' L Q N->bA (aO z d) L' L (λG f=>(∃r,f.q G 0=Y r)/\rR B b d j' (⟨t,M,j,0⟩::l) m F (kh L K') G f (λs p=>Q (.e p.d)<|p.b<|.e s)) N):fS B a z d (.b (.a q) a')<|mE [bR E e'] (fq j' (⟨t,M,j,0⟩::l) m F) M':=λac' T L b' Q v' ad' m' N' W=>by
 haveI ae':=AG λX w' l'=>by exact ay (k'.e X w' l') λR c' af'=>cF (m'.b X.1 R c' af') λv K ag' K=>⟨v,ag'⟩
 rw[exec_Assign];refine aS<|g7 ?_;have ah':TJ [bR E e'] (fq j' (⟨t,M,j,0⟩::l) m F) M'.line T=cG an:=by
  refine(?_:(cG<|T.blockKind==hy&&T.kindOf E==Y .local&&e'.line==F.line&&!(m.names.any λ(n,k)=>n==E&&(k==.local||k==d4)):jv ba)=cG an);haveI ai':T.kindOf E=Y .local:=by exact(J m'.d l':T.scope.names.lookup E=_)
  haveI n':T.blockKind=hy:=by delta Tl;refine J m'.h ?_;rfl
  rw[ai',n',Bool.and_assoc,aa'];rfl
 refine J ah'<|aS<|bC ?_;skip;haveI c':bA (aO z d) a' L (λw f=>iw (aO z d) (.a q) w au (λo' p=>Q .b o' p) L f) b'.a:=by haveI W:bA (aO z d) a' L (λw f=>iw (aO z d) (.a q) w (hv a') (λo' p=>Q .b o' p) L f) b'.a:=W;rwa[Z']at W
 refine(aS<|aS<|TM (g:=⟨t,M,j,0⟩) (gs:=l) I (sx X') ae' k'.h k'.c<|W'.e v' m' N' (ab' L _ b'.a c') λx' G X y' p' O' w' d'=>bb ?_:bc (a7 B.b B.a) ac' (do
  (do
   let _<-comprehension (fq j' (⟨t,M,j,0⟩::l) m F) m T (firstIterPos (⟨t,M,j,0⟩::l) F) (newList []) (firstAsync<|⟨t,M,j,0⟩::l) (firstIter (⟨t,M,j,0⟩::l) T) (Y λw=>assignAll w [pl (bR E e') T]))
  cG g2) _ _ b'.d);intro z';refine aM d' λaj' d'=>?_;obtain⟨r,ak'⟩:=aj';refine AN k' v' p' y' w' ak' d' λD aJ' y H f' o' A' P al'=>bb ?_;intro z';refine cF P.g λam' n q' A=>en (P.j.C (x:=.e f') (a:=D) bk P.d (dr am' n q' A) P.i y' P.e) λan' P' aK' ao'=>?_;have Q':y.locals≠T.locals:=λu=>by refine ay p'.e λR' ap' K=>gi ap' λB' K K c' K=>?_;haveI:=P.b;replace this:=u▸this;rw[show x'.d.heap.get? T.locals=au from this]at c';exact aC c' ar
 refine i3.e (Aq (z:=z) (d:=d) Y'<|aK l') (c:=H.u H.d D<|.e f') v' ad' (p'.i y' P'.u) an' (.e (b7 _) λK=>by exact(J (a9 I) I:D=(if H.a.d=H.a.d then D else _)):aY (H.u H.d D<|.e f') (.e H.a.d) (aN D)) (λK W=>by cases W) al' λg' r' aq' i C' ar'=>bb ?_;intro z';refine ay P.f.e λR' S' K=>e5 (id S') λB' aL' aM' C D' K=>?_;haveI as':¬gc a T y.locals:=λat'=>by
  refine aE at' (λu=>Q' u) λE'=>dd E' λau' R F' G' av'=>?_
  .refine dd (p'.b au' R F'<|aK G') λv w S H' K=>ay H' λs' t' K=>?_;replace S:=av'▸S;injection S with S;subst S;haveI:=P.b;rw[show x'.d.heap.get? y.locals=au from this]at t';exact aC t' ar
 haveI aw':D≠y.locals:=λu=>by replace C:=q'▸u.symm▸C;injection C with C;subst C;cases D'
 have T':∀u',(H.u H.d D<|.e f').a.h u'->(H.u H.d D<|.e f').b u'≠y.locals:=λu' ax' u=>by exact aE (ao' u' ax') (λW=>aw'<|bx W.symm u) λE'=>ay E' λay' F' G'=>P.f.j ay' F'<|bx G' u
 have I':=C'.p _ _ C as' T';refine⟨R',j8.a.k (h:=bz H.d) (az A' S') λs' u=>by rw[<-A']at u⊢;replace u:=C▸u;exact az u I',λU' h'=>?_⟩;replace h':=A'.symm▸h';haveI az':hp b' y.locals:=by cases d':b'.d.heap.get? y.locals with|none=>exact d'|some s'=>refine bH (O'.n _ _ d') λaN' n'=>?_;haveI:=P.b;rw[show x'.d.heap.get? y.locals=au from this]at n';exact aC n' ar
 refine b6 (aq'.w ((O'.i P'.u).b.i C') N' az' I' (fu _ _ D') (qm C' (o:=B') C T') h') λaA' aB' aC'=>?_;haveI aD':cv a T r'<|g'.h {g'.d with heap:=U'}:=by refine ay i.e λaE' aF' aG'=>?_;have V':∀R J',ek g' r' R J'->ek (g'.h {g'.d with heap:=U'}) r' R J':=λR J' W aH' u=>ay (W aH' u) λX v i'=>aF X v<|i'.f aC';exact⟨i.h,i.d,i.f,i.g,i.j,aF aE' (j8.a.k aF' λB' u=>(h'.2 _<|f8 Q').trans u) λX q v i'=>V' _ _<|aG' X q v i',(λX q v i'=>by refine bb ?_;intro z';refine dd (i.b X q v i') λaI' w q' H' t'=>ay H' λs' A S=>fv aI' w q' ⟨s',(h'.2 _ λE=>?_).trans A,S⟩<|V' _ _ t';replace A:=I'▸E▸A;injection A with A;subst A;replace S:=D'▸S;cases S),i.inj,i.n⟩
 exact bC<|bC<|.mk _ r' .b aA' aD' aB' .b ar'
end
end
section
variable{B:bZ}{b a:bT}{z:O->a3 bg}{d:O}
mutual
def pr(B:bZ)(a:bT)(z:O->a3 bg)(d:O)(c i:a5)(t F b:cC)(M:U cC)(m:U tW)(f:j4)(S:il)(g:U O):Prop:=∀(L:U V)(Q:V->av->Prop)(N:av),bA (aO z d) c L Q N->bA (aO z d) i L (λG q=>(∃r,q.q G 0=Y r)/\rR B a d b (⟨t,F,M,0⟩::m) f S (kh L g) G q (λh A=>Q (.e A.d)<|A.b<|.e h)) N
theorem sW{N:av}(h:iC c body n i f Q N):∃r,N.q c i=Y r:=by induction n with|zero=>exact be h|succ n=>exact ay (bF.a h) λr e p=>⟨r,e⟩
theorem HI(m:a.b.lookup f=Y i)(o:a.d.lookup f=Y .local)(q:a6 B a z d g k):pr B a z d (.y i j g) j (bR f p) F k [] [] t S [i]:=λL Q N h=>by refine gV (jz z d) j L _ _ N (λE H h=>?_) h;obtain⟨n,h⟩:=h;refine⟨sW h,λA M D W P c X r G s C u e R=>?_⟩;subst e;exact vE (ss m o) .z q r G s (λl=>∃w,l=L.set i w) (λv T K N l x b=>by obtain⟨w,rfl⟩:=x;refine bV (by simpa using b.1) ⟨v,by simp⟩ b.2.2.1 ?_;refine(?_:bA (aO z d) g ((L.set i w).set i v) _ N);rw[o2];exact b.2.2.2) R C u ⟨.d,I⟩ h
theorem HK(y:a.b.lookup f=Y i)(o:a.d.lookup f=Y .local)(q:eY B a z d M j)(r:a6 B a z d k l):pr B a z d (.C i g M k) g (bR f p) F l [j] [] t S [i]:=λL Q N h=>by refine gV (jz z d) g L _ _ N (λP T h=>?_) h;obtain⟨n,h⟩:=h;refine⟨sW h,λA W D X c K a' s G u x E e R=>?_⟩;subst e;exact vE (ss y o) (.C q) r s G u (λm=>∃w,m=L.set i w) (λv b' c' N m H b=>by obtain⟨w,rfl⟩:=H;refine bV (by simpa using b.1) ⟨v,by simp⟩ b.2.2.1 ?_;rw[o2];exact b.2.2.2) R x E ⟨.d,I⟩ h
theorem M7{G:Prop}{v:V}(h:v.u f)(k:∀x y,v=.g [x,y]->f x y->G):G:=by
 induction v using V.casesOn with
 |g l=>induction l using gn with|nil=>exact be h|cons x l=>induction l using gn with|nil=>exact be h|cons y l=>induction l using gn with|nil=>exact k x y I h|cons z l=>exact be h
 |_=>exact be h
theorem HL(s:a.b.lookup f=Y i)(u:a.d.lookup f=Y .local)(G:a.b.lookup W=Y j)(H:a.d.lookup W=Y .local)(M:i≠j)(P:a6 B a z d l m):pr B a z d (.T i j g l) g (e7 [bR f p,bR W E] k q) F m [] [] t S [i,j]:=λL Q N h=>by
 refine gV (jz z d) g L _ _ N (λa' b' h=>?_) h;obtain⟨c',h⟩:=h;refine⟨sW h,λd' e' f' g' h' i' j' R X c C n e v=>?_⟩;subst e;exact vE (HV s u G H) .z P R X c (λr=>∃w o,r=(L.set i w).set j o) (λk' l' m' N r A b=>by
  refine f2 A λw o D=>J D<|M7 b λx y K b=>?_;haveI e:((((L.set i w).set j o).set i x).set j y)=(L.set i x).set j y:=by rw[qS _ _ M.symm,o2,o2]
  exact h3 x y K (by simpa using b.1) (by simpa using b.2.1)<|aP ⟨x,y,e⟩ b.2.2.2.2.1<|J e b.2.2.2.2.2) v C n (fu .d .d I) h
theorem HJ(M:a.b.lookup l=Y i)(P:a.d.lookup l=Y .local)(R:a.b.lookup W=Y j)(T:a.d.lookup W=Y .local)(X:i≠j)(c:∀C L f Q g,bA C k L Q g->bA C k f Q g)(e:a6 B a z d k m)(n:iA m=ax)(x:a6 B a z d o r):pr B a z d (.N i q j k o) q (bR l p) F r [] [⟨bR W E,m,[],0⟩] t S [i,j]:=λL Q g h=>by
 refine gV (jz z d) q L _ _ g (λl' m' h=>?_) h;obtain⟨n',h⟩:=h;refine⟨sW h,λo' p' q' r' s' t' u' A D K C a' b' c'=>?_⟩;subst b';refine HP (ss M P) (ss R T) e n x A D K (λf=>∃w b,f=(L.set i w).set j b) (λv f=>j<Z L/\∃b,f=(L.set i v).set j b) (inner:=λv w G d' e'=>w≠.d/\Z G<bi/\bA (aO z d) o ((L.set i v).set j w) (λf' g'=>d' (G++[f']) g') e') (λv h' i' g f u s=>?_) (λv w h' i' g f u s=>?_) (λv f u=>kJ u λv' b y=>J y<|fu v b I) c' C a' (fu .d .d I) h
 .obtain⟨w,b,rfl⟩:=u;refine aP (by simpa using s.1) ⟨s.2.1,b,?_⟩<|c _ _ _ _ _ s.2.2.2;rw[qS _ _ X.symm,o2]
 .refine kJ u λH b y=>J y<|haveI w':=s.1;haveI j':=s.2.1;haveI k':=s.2.2;bV (by simpa using H) ⟨H,w,by rw[o2]⟩ j' ?_;rw[o2];exact k'
end
end
mutual
theorem Hi{b:aQ->a3 lM}{y:aQ}(C:b y=Y .local){a:U (aQ×aZ)}:∀{m:aQ->a3 aZ},(b0 (a.map (·.1)))->bindL b a m y=(a.lookup y).or (m y):=by
 induction a with
 |nil=>exactλp=>I
 |cons x r d=>
  obtain⟨n,v⟩:=x;intro m h;refine aM (dO.mp h) λA i=>?_;unfold bindL;refine J (d i)<|J jq ?_;by_cases e:y=n
  .subst e;haveI:r.lookup y=au:=by cases q:r.lookup y with|none=>rfl|some w=>exact aA (fM (f:=(·.1))<|ua q) A
   simp[this,C]
  .haveI:(y==n)=ax:=by simpa using e
   refine J this ?_;by_cases c:b n=Y .local
   .refine J (a9 c) ?_;simp only[bf e]
   .exact J (bf c) I
theorem Hh{b:aQ->a3 lM}{y:aQ}(C:b y≠Y .local){a:U (aQ×aZ)}:∀{m:aQ->a3 aZ},(b0 (a.map (·.1)))->bindC b a m y=(a.lookup y).or (m y):=by
 induction a with
 |nil=>exactλp=>I
 |cons x r d=>
  obtain⟨n,v⟩:=x;intro m h;refine aM (dO.mp h) λA i=>?_;unfold bindC;refine J (d i)<|J jq ?_;by_cases e:y=n
  .subst e;haveI:r.lookup y=au:=by cases q:r.lookup y with|none=>rfl|some w=>exact aA (fM (f:=(·.1))<|ua q) A
   simp[this,C]
  .haveI:(y==n)=ax:=by simpa using e
   refine J this ?_;by_cases c:b n=Y .local
   .exact J (a9 c) I
   .refine J (bf c) ?_;simp only[bf e]
structure mN(a:bT)(o:mD)(q:U aQ):Prop where
 h:o.scope.kind=hy
 c:o.scope.isCoroutine=ax
 e:o.scope.isGenerator=ax
 d:a.d=o.scope.names
 f:o.globals=eO
 g:o.builtins=rx
 m:o.params.args.map (·.arg)=q
 p:b0 q
 k:∀x∈q,o.scope.names.lookup x=Y .local\/(o.scope.names.lookup x=Y d4/\∀n,((x4 n o.scope.names []).lookup x).isSome=an)
 b:∀x i,a.b.lookup x=Y i->(i<Z q/\q[i]?=Y x)\/(Z q<=i/\x∉q)
 l:∀x i,a.b.lookup x=Y i->o.scope.names.lookup x=Y d4->∀n,((x4 n o.scope.names []).lookup x).isSome=an
 j:∀x i,a.b.lookup x=Y i->o.scope.names.lookup x≠Y ez
 inj:∀x y i,a.b.lookup x=Y i->a.b.lookup y=Y i->x=y
theorem BY{α:Type}{v:α}{K:U aQ}:∀{b:U α}{i:O},(b0 K)->K[i]?=Y n->b[i]?=Y v->(K.zip b).lookup n=Y v:=by induction K with|nil=>exactλp h p=>aC h ar|cons x r d=>intro b i c h a;induction b using gn with|nil=>exact aC a ar|cons w D=>refine J SN<|J jq ?_;induction i using nF with|zero=>exact J (mL.mpr (bE h).symm) a|succ i=>exact aM (dO.mp c) λA f=>J (FA.mpr λe=>A<|az e<|dZ h:(n==x)=ax)<|d f h a
theorem to{d:bg}(h:c5 (d.a Q) i=Y v):(i<Z Q/\Q[i]?=Y v)\/(Z Q<=i/\d.c[i-Z Q]?=Y v):=by
 refine aM (sU h) λc g=>?_;unfold bg.a at c;rcases f6 i (Z Q)with y|y
 .left;rw[lG (by simp;exact(aq [1,1] I:ap 3 0 [.e .a .b] (.e .a<|.e .b .f)) y),lG y]at c;exact⟨y,c⟩
 .right;refine⟨y,?_⟩;refine aE (f6 i (Z (Q++d.c))) (λs=>?_) λs=>?_
  .rw[lG s,Sq y]at c;exact c
  .replace c:=List.getElem?_replicate▸(Sq s)▸c;split at c
   .obtain rfl:=bE c;exact aA I g
   .exact be (nomatch c:bW)
end
section
variable{B:bZ}{a:bT}{z:O->a3 bg}{d:O}
mutual
def jf(Q:V->av->Prop):dk->U V->av->Prop:=λL p A=>L.a (Q .z A) λv=>Q v A
def Iq:Flow->aZ|gp v=>v|_=>dL
theorem bd.c(S:a8 ce j E)(M:∀g,gc a T g->j.d.heap.get? g=au)(h:fF B a T E (jf Q) L X):bd B j Q (Iq L) X:=by refine h.casesOn λk s f l t m n q=>?_;have p:a8 ce j k:=((S.b).i m).o λg r=>a1<|M g r;induction n with|b=>exact⟨k,.z,l,p,.z,q⟩|d=>exact be q|e=>exact be q|c P=>exact⟨k,_,l,p,P,q⟩
structure iX(A:cR)(d:O):Prop where
 a:A.handled=au
 b:A.depth+3*d<902
 c:A.units+60*d<9050
theorem da.f(h:da A d):iX A d:=⟨h.a,uX h.b,(aq [1,1] I:ap 2 0 [.e (.e .a<|.m 60 .b)<|.c 9000] (.e (.e .a<|.m 60 .b)<|.c 9050)) h.c⟩
theorem iX.e(f:iX A (d+1)):da (A.deeper T) d:=⟨f.a,(aq [1,1] I:ap 2 0 [.e (.e .a<|.m 3<|.h .b)<|.c 902] (.e (.e (.h .a)<|.m 3 .b)<|.c 900)) f.b,(aq [1,1] I:ap 2 0 [.e (.e .a<|.m 60<|.h .b)<|.c 9050] (.e (.e (.e .a<|.c 3)<|.m 60 .b)<|.c 9000)) f.c⟩
def nW(B:bZ)(c:bl)(Q:V->av->Prop)(r:ju)(X:bB):Prop:=match r with|fJ (gp v)=>bd B c Q v X|fJ _=>bW|jX _=>bW
theorem Hv(W:B.e){G:bg}(w:mN a j m)(o':B.d.lookup r=Y ⟨s,t,o8 j,H⟩)(p':t3 B.d j.code j.qualname=an)(K:j.body=q4 body)(q':j.closure=[])(H':j.defaults=dL)(r':G.c=[])(s':hV B a z d G.b body)(t':∀k,Z m=Z k->nL j ⟨k,[]⟩=cG (m.zip k))(d':iX A (d+1))(R:aV B c)(o:bm c n k)(p:Z n=Z m)(u':dH (aO z d) G.b (jf Q) (G.a n) c.a):f9 (a7 B.b B.a) A (nH (aN r) ⟨k,[]⟩) (nW B c Q) c.d:=by
 haveI P:=zy p o.a;have e':=SC<|zz p o.a;refine codeAny_call_cells (uY d'.b (I:Fl=1000)) (R.d _ _<|W.a _ _ o') I (W.c.keeps R.d) (E9 (λu q v=>R.d _ _<|W.a u q v) p') K (t' k P) q' (λx v'=>?_) (λI' X=>?_) w.c w.e w.h
 .exact(w.k x.1 (az e'<|fM v':x.1∈m)).imp id λh=>⟨h.1,h.2 _⟩
 refine cF X.done λy F w' x'=>?_;subst w';haveI f':cj c.d {c.d with heap:=y,toks:=F}:=⟨x',I,I⟩;haveI g':=a8.h ce f';haveI y':∀l,c.a.h l->∀u,aX c.d.heap.objs<=u->c.b l≠u:=λl P u K v=>by refine ay (R.b P) λq D T=>?_;rw[v]at D;exact aA (d3 D)<|kV.mpr K
 haveI h':b0 ((m.zip k).map (·.1)):=J e' w.p;haveI i':∀x,(Fe j (aX c.d.heap.objs) r).kindOf x=j.scope.names.lookup x:=λx=>I;have j':∀x C a',a.b.lookup x=Y C->a'=((m.zip k).lookup x).or au->ek (c.h {c.d with heap:=y,toks:=F}) (G.a n) C a':=λx C a' L z' J' A'=>by
  refine aE (to A') (λM=>aM M λD E=>aE (w.b x C L) (λM=>aM M λT N=>ay ((o.i R (cn _) g').g E) λk' B' C'=>J z'<|(BY w.p N B').symm▸(⟨k',I,C'⟩)) λM=>aM M λN T=>be ((aq [1,0,1,1] I:ap 3 0 [.a .a .b,.e .f .a,.g .b .f] .i) p D N)) λM=>aM M λD E=>?_
  .replace E:=r'▸E;simp at E
 haveI D':cv a (Fe j (aX c.d.heap.objs) r) (G.a n)<|c.h {c.d with heap:=y,toks:=F}:=by
  refine⟨w.h,w.d.symm,w.f,w.g,λl P=>y' l P _<|b4 _,aF _ X.toInCall.ns λx C L b'=>j' x C _ L<|J (Hi (by rw[i'];exact w.d▸b') h') I,λx C L b'=>?_,w.inj,λx k' u D E=>name_of_addr X.apart (ua D)<|ua E⟩
  .have l':j.scope.names.lookup x=Y d4:=w.d▸(aE b' (λh=>h) λh=>aA (az w.d h)<|w.j x C L);obtain⟨u,m'⟩:=S5.mp (w.l x C L l'<|aX c.d.heap.objs+1);exact fv u _ m' (X.cell x u m')<|j' x C _ L<|J (Hh (by rw[i',l'];decide) h') I
 have c':∀u,gc a (Fe j (aX c.d.heap.objs) r) u->c.d.heap.get? u=au:=λu K=>by
  rcases K with rfl|⟨x,C,_,_,N⟩
  .exact aV.k
  .exact Ts<|f4<|X.above x u<|ua N
 have n':∀u,c.d.heap.get? u=au->B.c.get? u=au:=λu K=>by cases E':B.c.get? u with|none=>rfl|some q=>haveI:=R.d _ _ E';rw[K]at this;exact aC this ar
 refine c3 (s' _ _ (G.a n) _ (jf Q) d'.e ⟨n' _<|c' _<|aK I,λx C u D E N=>n' _<|c' _<|a1<|fv x C D E N⟩ D' (R.h f') u') (λF' K' G'=>?_) λT T h=>be h;induction F'<;>exact bd.c (S:=g') c' G'
end
end
set_option backward.match.sparseCases true
mutual
def i4(B:bZ)(z:O->a3 bg)(d:O)(a:O->aU):Prop:=∀(f:O)(A:cR)(c:bl)(Q:V->av->Prop)(b:U V)(e:U aZ),iX A d->aV B c->bm c b e->aO z d f b Q c.a->f9 (a7 B.b B.a) A (nH (aN<|a f) ⟨e,[]⟩) (nW B c Q) c.d
theorem i4.r(a:i4 g l i n)(b:iX A i)(R:aV g c)(P:bm c j k)(h:aO l i f j Q c.a):bc (a7 g.b g.a) A (e9 (aN<|n f) k) (bd g c Q) bP c.d:=rE (nN (a f A c Q j k b R P h) λm X z=>by rcases m with e|(v|_|_|_)<;>exact z)
end
section
variable{B:bZ}{b:bT}{z:O->a3 bg}{d:O}{a:O->aU}
mutual
theorem aV.t(a:B.e)(R:aV B x):B.d.In (bz x.d):=λb o e=>R.d _ _<|a.a b o e
theorem vt(n:B.e)(C:mF B.d f=an)(o:hU B b z d m i)(s:i.all cr=an){K:V->av->Prop}(p:da A d)(F:cv b T L c)(R:aV B c)(t:bA (aO z d) m L K c.a)(k:∀e l j,aV B e->cv b T L e->a8 ce c e->bm e l j->K (.g l) e.a->bc (a7 B.b B.a) A (e9 f<|first++j) Q bP e.d):bc (a7 B.b B.a) A (ry S f first (hN S<|g6 i T) []) Q bP c.d:=by haveI u:=o.e (W:=S) (P:=λD X=>B.d.In (bz X)/\bc (a7 B.b B.a) A (e9 f<|first++D) Q bP X) (E:=bP) p F R t λW l D G y v w q=>⟨G.t n,k W l D G y v w q⟩;refine callWith_of (P:=λh=>B.d.In h) (J (oD s).1 I) (keeps_K C) ?_;induction i with|nil=>unfold evalArgs;exact aS<|c3 u (λD X H=>aS<|bC<|eh<|aS<|bC<|aS<|bC<|bC H) λM M x=>x|cons a r=>refine aM (eS.mp s) λN a'=>?_;rw[f1 N]at u⊢;exact Tj u
theorem OK(k:B.e)(n:i4 B z d a)(C:b.d.lookup x=Y gF)(e:fA B.d eO x=Y (Y<|aN<|a g))(T:(x==("__debug__"))=ax)(o:mF B.d (aN<|a g)=an)(s:hU B b z d j i)(t:i.all cr=an):a6 B b z d (.r g j)<|cz (bR x p) i [] S:=λA w L c Q m F R h=>qU<|wa k F R C e (vt (first:=[]) k o s t m F R h λy l D E G u v q=>by rw[xF];exact jV u<|n.r (f:=g) m.f E v q) T
structure mQ(K:et)(o:O)(A:aQ)(f:aU):Prop where
 c:g5 K (aN<|cw o) "__getattr__"=Y au
 t:g5 K (aN<|cw o) A=Y (Y<|aN f)
 b:rv K (aN f)=Y (bq "function")
 q:mF K (aN f)=an
def lg(f:O)(A:aQ):ba:=(b2 fY).all λi=>eK i !=A||(f==0&&i==31)
theorem A8(h:iY k j g)(x:lg l A=an)(q:l=0->g 31=.d):pj A j=Y au:=by
 unfold pj;have a:j.find? (·.key.isStr A)=au:=by
  rw[List.find?_eq_none];refineλe b m=>dd (h.g e b) λi t y C n=>?_;rw[C]at m;haveI:=gl.mp x i<|ed.mpr y;simp only[oU,bne_iff_ne,ne_eq,iK,mL]at this;rcases this with h|⟨a,o⟩
  .exact h (Bx (v:=fz (eK i) t) (yj<|eK i) m:eK i=A)
  .subst o;exact n<|q a
 exact J a<|J (Ck (c:=k) (f:=λp=>.d) λe b=>dd (h.g e b) λi t p h p=>⟨i,t,h⟩) I
theorem JX(b:B.e)(K:i0 B.d)(R:aV B c)(g:c.a.f o=an)(a:mQ B.d o e i)(x:lg f e=an)(q:f=0->c.a.j o 31=.d)(h:P (aN i,[aN<|c.c o]) c.d):bc (a7 B.b B.a) A (t8 (aN<|c.c o) e Q) P bP c.d:=dd (R.y g) λj n l k z=>method_fn (R.t b) z (K.c o) a.c a.t a.b (by refine(?_:(lookIn e<|kX j n).map _=_);rw[lookIn_dict,A8 k x q];rfl) h
theorem O3(w:B.e)(K:i0 B.d)(E:i4 B z d a)(H:a6 B b z d m e)(y:mQ B.d o k (a g))(N:lg g k=an)(P:hU B b z d n i)(C:i.all cr=an)(T:hq e=an)(s:Z i<30)(W:(r.endLine==S.line)=an):a6 B b z d (.j m o g n)<|cz (dT e k r) i [] S:=λQ a' b' c' d' t F R h=>s0 T C s W (H.e t F R h λX e' f' G c l M q g'=>by refine bb ?_;intro h';obtain⟨rfl,p,q⟩:=q;refine aM M.o λv x=>?_;subst v;refine JX w K G x y N p<|vt (first:=[aN<|X.c o]) w y.q P C t c G q λi' j' k' A l' D s q=>?_;exact c3 (E.r (f:=g) t.f A (.b (M.i G (cn _) D) s) q) (λu u L=>bd.i l<|bd.i D L) λu u h=>h)
theorem aV.G{c:bl}(R:aV B c){o:O}(E:c.a.f o=ax)(a':∀Q,c.a.c o Q=.n){N:bB}{x dx:aU}(F:cj c.d N)(b':N.heap.get? x=Y (pk (cw o) dx))(c':N.heap.get? dx=Y pi)(H:c.d.heap.get? dx=au):aV B ⟨λL=>if L=.f o then dx else c.b L,λP=>if P=o then x else c.c P,{c.a with f:=aw c.a.f o an},N⟩/\a8 ce c ⟨λL=>if L=.f o then dx else c.b L,λP=>if P=o then x else c.c P,{c.a with f:=aw c.a.f o an},N⟩:=by
 have r:=R.h F;haveI i':¬c.a.h (.f o):=λX=>bH X λy u=>aC ((fi u).1.symm.trans E) ar;have K:∀L,L≠.f o->({c.a with f:=aw c.a.f o an}:av).g L=c.a.g L:=λL m=>by induction L with|f P=>exact aW (λv:ba=>if v=an then Y (b8.a λQ=>c.a.j P Q)else au)<|ji _ _ (λe=>m<|J e I:P≠o)|_=>rfl
 have M:c6 (c.h N) ⟨λL=>if L=.f o then dx else c.b L,λP=>if P=o then x else c.c P,{c.a with f:=aw c.a.f o an},N⟩:=by
  refine⟨λk k k e=>e,λk k k k k k k e=>e,b4 _,λk=>b4 _,λk=>I,λL k S m=>?_,λP z=>?_⟩
  .have W:L≠.f o:=λe=>by subst e;exact be S
   exact bH m λy u=>⟨⟨y,(K L W).symm.trans u⟩,by refine(J (bf W) ?_:(if L=.f o then dx else c.b L)=_);rfl⟩
  .have s:P≠o:=λe=>by subst e;rw[show c.a.f P=an from z]at E;exact aC E ar
   exact⟨(J (ji _ _ s) z:aw c.a.f o an P=an),by refine(J (bf s) ?_:(if P=o then x else c.c P)=_);rfl⟩
 have a:∀L,c.a.h L->c.b L≠dx:=λL m q=>by refine ay (R.b m) λk e k=>?_;rw[q,H]at e;exact aC e ar
 have C:∀L,({c.a with f:=aw c.a.f o an}:av).h L->L=.f o\/(L≠.f o/\c.a.h L):=λL X=>bH X λy u=>by
  by_cases e:L=.f o
  .exact aK e
  .exact a1 ⟨e,y,(K L e).symm.trans u⟩
 refine⟨⟨r.d,r.j,r.f,λL y e=>?_,λL m=>?_,λL w m d' e=>?_,λP s=>?_,r.q,r.m⟩,⟨λv o e k k=>F.p v o e,λv o e=>⟨o,F.p v o e⟩,λL m=>?_,b4 _,λk=>b4 _,λk=>I,λL e S m=>M.m L e S m,λP s=>M.f P s⟩⟩
 .refine(?_:fG B _ (if L=.f o then dx else c.b L) y);by_cases m:L=.f o
  .subst m;refine J (a9 I) ?_;haveI T:(if aw c.a.f o an o=an then Y (b8.a λQ=>c.a.j o Q)else au)=Y y:=e;rw[kH]at T;simp only[hO]at T;refine az (bE T) ?_;exact⟨[],0,c',⟨(λe e'=>by simp at e'),f7 _,λf' k g'=>aA ((λQ=>aW (λh':cd=>h'.q<|.j (.b o Q)<|c.a.e<|.b o Q)<|a' Q:∀Q,c.a.j o Q=.d) f') g'⟩⟩
  .exact J (bf m)<|(r.g L y<|(K L m).symm.trans e).f M λk e=>e
 .refine(?_:B.c.get? (if L=.f o then dx else c.b L)=au);rcases C L m with rfl|⟨A,t⟩
  .refine J (a9 I) ?_;cases q:B.c.get? dx with|none=>rfl|some o=>haveI:=R.d _ _ q;rw[H]at this;exact aC this ar
  .exact J (bf A)<|R.r L t
 .haveI e:(if L=.f o then dx else c.b L)=(if w=.f o then dx else c.b w):=e;rcases C L m with rfl|⟨A,t⟩<;>rcases C w d' with rfl|⟨i,l⟩
  .rfl
  .rw[a9 I,bf i]at e;exact aA e.symm<|a w l
  .rw[a9 I,bf A]at e;exact aA e<|a L t
  .rw[bf A,bf i]at e;exact R.inj L w t l e
 .refine(?_:N.heap.get? (if P=o then x else c.c P)=Y ⟨aN<|cw P,Y<|if cN.f P=.f o then dx else c.b (.f P),nI,#[]⟩);by_cases D:P=o
  .exact J D<|J (a9 I)<|J (a9 I) b'
  .refine J (bf D)<|J (bf λe=>D (by cases e;rfl)) ?_;haveI:c.a.f P=an:=by haveI z:aw c.a.f o an P=an:=s;rwa[ji _ _ D]at z
   exact r.s P this
 .refine(?_:(∃p,c.a.h p/\c.b p=(if L=.f o then dx else c.b L))\/c.d.heap.get? (if L=.f o then dx else c.b L)=au);rcases C L m with rfl|⟨A,t⟩
  .right;exact J (a9 I) H
  .left;exact⟨L,t,J (bf A) I⟩
structure ut(K:et)(o:O)(f:aU):Prop where
 a:makesIn K (cw o)=an
 k:g5 K (aN<|cw o) "__init__"=Y (Y<|aN f)
 t:rv K (aN f)=Y (bq "function")
 q:mF K (aN<|cw o)=an
theorem Rp(A:cR)(C:aU)(R:U aZ):(A.under<|qW "type.__call__" ⟨aN C::R,[]⟩).units=A.units+1/\(A.under<|qW "type.__call__" ⟨aN C::R,[]⟩).depth=A.depth+1:=⟨I,I⟩
theorem O6(K:B.e)(f':i4 B z d a)(g':b.d.lookup j=Y gF)(D:fA B.d eO j=Y (Y<|aN<|cw i))(h':(j==("__debug__"))=ax)(E:ut B.d i (a k))(i':hU B b z d s n)(j':n.all cr=an):a6 B b z d (.u i k s)<|cz (bR j p) n [] S:=λM v' w' k' l' G F W m'=>qU<|wa K F W g' D (vt (first:=[]) K E.q i' j' G F W m' λy l H N x' n' o' q=>by
 rw[xF];refine rE ?_;haveI X:=N.t K;haveI p':=make_core (prog:=B.b) (w:=B.a) (A:=M) (C:=cw i) (rest:=H) (kw:=[]) (init:=aN<|a k) (h:=bz y.d) (g:=y.d.gens) (d:=y.d.drawn) (t:=cA y.d) (os:=y.d.os) (R:=λr P=>match r with|fJ (gp v)=>bd B k' l' v P|fJ _=>bW|jX D=>bP D P) (makes_of X E.a) (looks_findIn X E.k) (λq'=>bind_fn X q' E.t) (aK I) ?_
 .exact p'
 haveI r':(co (co y.d.heap pi)<|pk (cw i) (aX y.d.heap.objs)).get? (aX y.d.heap.objs+1)=Y (pk (cw i) (aX y.d.heap.objs)):=az (q6 ..:aX (co y.d.heap pi).objs=aX y.d.heap.objs+1)<|d2 _ I;refine aM (N.G (o:=i) q.1 q.2.1 (N:={y.d with heap:=co (co y.d.heap pi)<|pk (cw i) (aX y.d.heap.objs)}) (x:=aX y.d.heap.objs+1) (dx:=aX y.d.heap.objs) (⟨λy' i D=>dJ _<|dJ _ D,I,I⟩:cj y.d {y.d with heap:=co (co y.d.heap pi)<|pk (cw i) (aX y.d.heap.objs)}) r' (dJ _<|d2 _ I) aV.k) λL Q=>?_;haveI a':=Rp M (cw i) H;have b':aY (⟨λl=>if l=.f i then(aX y.d.heap.objs)else y.b l,λp=>if p=i then aX y.d.heap.objs+1 else y.c p,{y.a with f:=aw y.a.f i an},{y.d with heap:=co (co y.d.heap pi)<|pk (cw i) (aX y.d.heap.objs)}⟩:bl) (.b i)<|aN<|aX y.d.heap.objs+1:=by simpa using(aY.b (c:=(⟨λl=>if l=.f i then(aX y.d.heap.objs)else y.b l,λp=>if p=i then aX y.d.heap.objs+1 else y.c p,{y.a with f:=aw y.a.f i an},{y.d with heap:=co (co y.d.heap pi)<|pk (cw i) (aX y.d.heap.objs)}⟩:bl)) i<|kH _ _ _)
 refine nN (f' k (M.under<|qW "type.__call__" ⟨aN (cw i)::H,[]⟩) _ _ (.b i::l) (aN (aX y.d.heap.objs+1)::H) ⟨G.a,(aq [1,1,0,1] I:ap 3 0 [.a .a<|.h .b,.e (.e .b<|.m 3 .f)<|.c 900] (.e (.e .a<|.m 3 .f)<|.c 902)) a'.2 G.b,(aq [1,1,0,1] I:ap 3 0 [.a .a<|.h .b,.e (.e .b<|.m 60 .f)<|.c 9000] (.e (.e .a<|.m 60 .f)<|.c 9050)) a'.1 G.c⟩ L (.b b'<|o'.i N (cn _) Q) q.2.2) λr P T=>?_;rcases r with D|(v|_|_|_)<;>first|exact T|exact T.elim|skip
 refine bd.casesOn T λt' z' u' c' d' e'=>?_;rw[e'.1]at d';exact⟨d'.r,.mk t' (.b i) u' (n'.i<|Q.i c') (aY.i L (cn _) c' b') e'.2⟩) h'
end
end
set_option backward.match.sparseCases false
mutual
def lj{α:Type}(n:O)(r:O->O->ba):KasT α->a3 α|.ret a=>Y a|.ask i j k=>if a0 (i<n)&&a0 (j<n)then lj n r (k<|r i j)else au
theorem Be{k:ba->KasT α}:lj n r (.ask i j k)=if(a0 (i<n)&&a0 (j<n))=an then lj n r (k<|r i j)else au:=I
theorem JY{G:α->bB->Prop}(d:∀i j C,i<n->j<n->C (r i j) s->b i j C s){t:KasT α}{a:α}(h:lj n r t=Y a)(g:G a s):t.kasWp b G s:=by induction t with|ret x=>exact J (bE h) g|ask i j k e=>exact aM (fi h) λc h=>d i j _ (fa (eS.mp c).1) (fa (eS.mp c).2)<|e _ h
def qd(n:O):O->U (U O)|0=>[[]]|k+1=>(qd n k).flatMap λt=>(b2 n).map (·::t)
theorem Cd{n:O}:∀{l:U O},(∀x∈l,x<n)->l∈qd n (Z l)|[],_=>.head _|x::t,h=>by refine(?_:x::t∈(qd n (Z t)).flatMap λt=>(b2 n).map (·::t));rw[tL];exact⟨t,Cd λy a=>h y<|cm _ a,bL.mpr<|aF x (ed.mpr<|h x<|bu ..) I⟩
def C7(n:O)(K:U O):ba:=match lj n (λi j=>a0<|bS K i 0<bS K j 0) (x2 n)with|Y p=>p.toList.isPerm (b2 n)&&a0 (p.toList.Pairwise λi j=>bS K i 0<=bS K j 0)|au=>ax
def th(n:O):ba:=(qd n n).all<|C7 n
theorem Ps:th 2=an:=by decide+kernel
theorem Pt:th 3=an:=by decide+kernel
theorem Pu:th 4=an:=by decide+kernel
def fj(p q:am×am):ba:=a0<|p.1<q.1\/(p.1=q.1/\p.2<q.2)
def kA(n:O)(D:O->am×am)(i:O):O:=(b2 n).countP λj=>fj (D j)<|D i
theorem KP(h:fj d e=an)(k:fj e g=an):fj d g=an:=by delta fj at*;simp at*;exact aE h (λi=>aE k (λj=>aK<|z7 i j) λj=>aK<|(aq [1,1,1] I:ap 0 3 [.b .a .b,.c .b .f] (.b .a .f)) i j.1) λi=>aE k (λj=>aK<|(aq [1,1,0,1] I:ap 0 3 [.c .a .b,.b .b .f] (.b .a .f)) i.1 j) λj=>a1 ⟨(c8 [1,1,0,1] [1,0,1,0,1] I I:ap 0 3 [.c .a .b,.c .b .f] (.c .a .f)) i.1 j.1,z7 i.2 j.2⟩
theorem BN:fj a a=ax:=by delta fj;simp
theorem sS(h:fj a b=ax):b.1<a.1\/(a.1=b.1/\b.2<=a.2):=aE (Int.lt_trichotomy a.1 b.1) (λx=>aA (aK x)<|rK h) λx=>aE x (λe=>a1 ⟨e,gW.mp λl=>rK h<|a1 ⟨e,l⟩⟩) aK
theorem BO{a b c:am×am}(h:b.1<a.1\/(a.1=b.1/\b.2<=a.2))(d:c.1<b.1\/(b.1=c.1/\c.2<=b.2)):c.1<a.1\/(a.1=c.1/\c.2<=a.2):=aE h (λx=>aE d (λy=>aK<|R9 y x) λy=>aK<|y.1▸x) λx=>aE d (λy=>aK<|x.1▸y) λy=>a1 ⟨x.1.trans y.1,ey y.2 x.2⟩
theorem KO(h:fj a b=ax)(d:fj b c=ax):fj a c=ax:=io λz=>aE z (λl=>aE (BO (sS h)<|sS d) (λg=>tF l g) λg=>xm _<|g.1▸l) λl=>aE (BO (sS h)<|sS d) (λg=>xm _<|l.1▸g) λg=>gW.mpr g.2 l.2
theorem AT{l:U O}(d:∀x∈l,p x=an->q x=an)(c:y∈l)(A:p y=ax)(f:q y=an):l.countP p<l.countP q:=by
 induction l with
 |nil=>cases c
 |cons x t j=>
  refine J xt<|J xt ?_;rcases cu.mp c with rfl|c
  .refine J A<|J f ?_;skip;exact(aq [1,1] I:ap 2 0 [.g .a .b] (.e .a<|.h .b))<|xv λz E=>d z<|cm _ E
  .have:=j (λz E=>d z<|cm _ E) c;cases k:p x with|false=>simp;split<;>(first|exact(aq [1,1] I:ap 2 0 [.e .a .b] (.e .a<|.h .b)) this|exact(aq [1,1] I:ap 2 0 [.e .a .b] (.e .a<|.e .b .i)) this)|true=>refine J ((d x<|bu ..) k) ?_;simp;exact(aq [1,1] I:ap 2 0 [.e .a .b] (.e .a .b)) this
theorem CP(y:i<n):a0 (kA n D i<kA n D j)=fj (D i) (D j):=by cases h:fj (D i) (D j)with|true=>exact J g8<|AT (λx p M=>KP M h) (ed.mpr y) BN h|false=>rw[yk,kV];refine xv λx p M=>?_;cases q:fj (D x) (D i)with|true=>rfl|false=>rw[KO q h]at M;exact aC M ar
theorem NK(y:i<n):kA n D i<n:=by simpa using(show kA n D i<(b2 n).countP λp=>an from AT (λp p p=>I) (ed.mpr y) BN I)
set_option tactic.hygienic true in theorem Ra{n:O}(d:2<=n)(f:n<=4)(D:O->am×am):∃p:cQ O,lj n (λi j=>fj (D i)<|D j) (x2 n)=Y p/\p.toList.Perm (b2 n)/\p.toList.Pairwise λi j=>fj (D j) (D i)=ax:=by
 revert d f;revert n D;refine@kx _ ?_;refine jJ @(letI n:=_;letI D:=_;(jT ?_:is _ _ _ _ n D));intros;haveI g:th n=an:=by
  haveI:n=2\/n=3\/n=4:=by omega
  refine aE this (λX=>J X ?_) λh=>aE h (λX=>J X ?_) λX=>J X ?_
  .exact Ps
  .exact Pt
  .exact Pu
 haveI T:((b2 n).map<|kA n D)∈qd n n:=by
  haveI:=Cd (n:=n) (l:=(b2 n).map<|kA n D) λx M=>by refine ay (bL.mp M) λi y W=>?_;refine az W ?_;exact NK<|ed.mp y
  simpa using this
 haveI A:=gl.mp g _ T;unfold C7 at A;have u:∀i,i<n->bS ((b2 n).map<|kA n D) i 0=kA n D i:=λi y=>by simp[y]
 haveI m:∀(t:KasT (cQ O)),lj n (λi j=>a0<|bS ((b2 n).map<|kA n D) i 0<bS ((b2 n).map<|kA n D) j 0) t=lj n (λi j=>fj (D i)<|D j) t:=by
  intro t;induction t with
  |ret a=>rfl
  |ask i j k o=>
   rw[Be,Be];split
   .rename_i b;simp only[iK,g8]at b;exact(u i b.1).symm▸(u j b.2).symm▸(CP b.1).symm▸(o _)
   .rfl
 rw[m]at A;cases e:lj n (λi j=>fj (D i)<|D j) (x2 n)with|some p=>rw[e]at A;refine aM (eS.mp A) λc d=>?_;refine bO p I (xB.mp c) ?_;refine Sh (λ{i j}y s b=>?_)<|fa d;rw[u i<|(λi y=>ed.mp<|(xB.mp c).mem_iff.mp y:∀i∈(cx p),i<n) i y,u j<|(show∀i∈(cx p),i<n fromλi y=>ed.mp<|(xB.mp c).mem_iff.mp y) j s]at b;exact az (CP (n:=n)<|(show∀i∈(cx p),i<n fromλi y=>ed.mp<|(xB.mp c).mem_iff.mp y) j s)<|io<|kV.mpr b|none=>rw[e]at A;exact aC A ar
inductive ev{α β:Type}(R:α->β->Prop):U α->U β->Prop|d:ev R [] []|b{a c l r}:R a c->ev R l r->ev R (a::l) (c::r)
@[elab_as_elim]theorem ev.g{α β:Type}{R:α->β->Prop}{l:U α}{c:β}{r:U β}{P:U α->Prop}(h:ev R l (c::r))(k:∀m x,R m c->ev R x r->P (m::x)):P l:=by cases h with|b h t=>exact k _ _ h t
theorem ev.q{R:α->β->Prop}{C e:U β}(h:e.Perm C){g:U α}(f:ev R g C):∃r,r.Perm g/\ev R r e:=by
 haveI D:∀{x y:U β},x.Perm y->∀l:U α,ev R l x->∃c,l.Perm c/\ev R c y:=λh=>by induction h with|nil=>exactλl f=>aF l (qO _) f|cons z _ j=>exactλl f=>ev.g f λa c h t=>ay (j _ t) λc A i=>aF _ (A.cons _)<|.b h i|swap z w t=>exactλl f=>ev.g f λa c h t=>ev.g t λo c k t=>aF _ (xq _ _ _)<|.b k<|.b h t|trans _ _ S m=>exactλl f=>ay (S _ f) λc A i=>ay (m _ i) λG Q n=>aF G (A.trans Q) n
 exact ay (D h.symm _ f) λc A i=>aF c A.symm i
def rU(c:bl)(p:V×V)(q:aZ×aZ):Prop:=aY c p.1 q.1/\aY c p.2 q.2
theorem CI(h:bm g i R)(a:bm g l w):ev (rU g) (i.zip l)<|R.zip w:=h.j (λp p p=>.d) (λp p p p M p e l w a=>a.j .d λp p p p f t p=>.b ⟨M,f⟩<|e _ _ t) l w a
theorem NE(h:ev (rU g) x i):bm g (x.map iT)<|i.map iT:=by induction h with|d=>exact .d|b h _ a=>exact .b h.2 a
theorem ev.h{α β:Type}{R:α->β->Prop}{l:U α}{r:U β}(f:ev R l r){a:α}(s:a∈l):∃m∈r,R a m:=by induction f with|d=>exact aC s ar|b c t g=>exact aE (cu.mp s) (λe=>aF _ (bu ..)<|J e c) λT=>(g T).imp λp c=>⟨cm _ c.1,c.2⟩
theorem ev.i{R:α->β->Prop}{P:β->β->Prop}{Q:α->α->Prop}(M:∀o n s m,R o s->R n m->P s m->Q o n){l:U α}{r:U β}(h:ev R l r)(p:r.Pairwise P):l.Pairwise Q:=by induction h with|d=>exact tH|b h t c=>exact aM (o1.mp p) λA e=>o1.mpr ⟨λn f=>ay (t.h f) λm g C=>M _ _ _ _ h C<|A m g,c e⟩
theorem bm.p(h:bm q s r):bm q s.reverse r.reverse:=h.j .d λa a a a h a e=>J SI<|J SI<|e.u h
structure hd(B:bZ)(e:bl)(a k:aU)(b:O)(f:U V)(c:bl):Prop where
 j:aV B c
 i:a8 (λo=>o=a\/o=k) e c
 q:B.c.get? a=au
 h:B.c.get? k=au
 m:k≠a
 d:∀l,c.a.h l->c.b l≠a
 g:∀l,c.a.h l->c.b l≠k
 n:c.d.heap.get? a=Y (dS "list" #[] b)
 p:∃z r,c.d.heap.get? k=Y (dS "list" z r)/\bm c f (cx z)
theorem hX:lT<|dS "list" R n:=a1<|a1<|bO "list" I as as
end
section
variable{B:bZ}{z:O->a3 bg}{d:O}{e c:bl}{a k:aU}{b:O}{f:U V}
mutual
theorem hd.l(S:hd B e a k b f c)(E:aV B r)(T:a8 ce c r):hd B e a k b f r:=cF S.p λz d A i=>⟨E,S.i.i<|T.k λp h=>be h,S.q,S.h,S.m,qm T S.n S.d,qm T A S.g,T.p _ _ S.n (λq=>q) S.d,z,d,T.p _ _ A (λq=>q) S.g,i.i S.j (cn _) T⟩
theorem hd.o{v:V}{x:aZ}{A:cR}{P:cI->bB->Prop}(S:hd B e a k b f c)(M:aY c v x)(n:Z f<64)(K:∀r,r.a=c.a->hd B e a k b (f++[v]) r->c6 c r->P () r.d):bc (a7 B.b B.a) A (Un (aN k) (·.push x)) P bP c.d:=(cF S.p λz j d l=>(xT d I (have C:∀i m,i≠k->c.d.heap.get? i=Y m->(c.d.heap.update k (e8 (·.push x))).get? i=Y m:=λi m q j=>(tZ _ _ _ _ q).trans j;aM (S.j.l (X:=(·=k)) (N:={c.d with heap:=c.d.heap.update k (e8 (·.push x))}) I (f3 d hX) S.h S.g (aF _ d hX) ⟨_,(tU d (·.push x))⟩ C I I) λE p=>(K (c.h _) I ⟨E,S.i.i<|p.k λi s=>a1 s,S.q,S.h,S.m,S.d,S.g,C _ _ (λj=>S.m j.symm) S.n,_,_,(tU d (·.push x)),J xl<|(l.f<|p.a S.j<|f3 d hX).u<|M.f<|p.a S.j<|f3 d hX⟩<|p.a S.j<|f3 d hX)) (J j5<|r7 n<|ex l) (by rw[Array.size_push,j5];exact(aq [1,1,1] I:ap 2 0 [.e .a<|.c 64,.a .b .a] (.g (.h .b)<|.h<|.c 16777216)) n<|ex l)))
theorem NQ{A:cR}{y:aZ}{s:O}{t n:U V}{p:U aZ}{C:ba}{K:U V->av->Prop}{P:pc->bB->Prop}(W:∀g D v x Q,hd B e a k b D g->aY g v x->aO z d s (t++[v]) Q g.a->bc (a7 B.b B.a) A (e9 y [x]) (bd B g Q) bP g.d)(S:hd B e a k b [] c)(E:bm c n p)(j:Z n<64)(q:iB (aO z d) s t n K c.a)(r:∀g D h m,hd B e a k b D g->bm g n p->g.d.heap.get? k=Y (dS "list" h m)->bm g D (cx h)->Z D=Z n->K D g.a->bc (a7 B.b B.a) A (o7 a C (c1 p) b (aN k) h) P bP g.d):bc (a7 B.b B.a) A (ksk_rest a y C (c1 p) b<|aN k) P bP c.d:=by
 revert B z d e c a k b A y s t n p C K P;refine@Ny _<|h0 @(letI B:=_;letI z:=_;letI d:=_;letI e:=_;letI c:=_;letI a:=_;letI k:=_;letI b:=_;letI A:=_;letI y:=_;letI s:=_;letI t:=_;letI n:=_;letI p:=_;letI C:=_;letI K:=_;letI P:=_;(ic ?_:he _ _ _ _ _ _ _ _ _ B z d e c a k b A y s t n p C K P));intros;skip;refine aS<|ug ?_;first|rw[List.forIn_toArray]|(rw[<-Array.forIn_toList];rfl)|rw[<-Array.forIn_toList]
 refine aS<|ksk_fold (λi X=>∃g D,g.d=X/\hd B e a k b D g/\Z D=i/\bm g n p/\iB (aO z d) s t (n.drop i) (λa' b'=>K (D++a') b') g.a) p 0 c.d (fv c [] I S<|aP I E (by simpa using q)) ?step ?done;case step=>rintro c' x X M⟨g,D,rfl,u,w,F,G⟩;rw[EQ]at w G⊢;haveI L:=(lH.mp M).1;have N:c'<Z n:=pE E.a L;rw[xw N]at G;refine bb ?_;intro q';refine ay (F.g<|cl N) λr' H d'=>?_;replace H:=M▸H;obtain rfl:=bE H;refine aS<|Fs<|c3 (W g D _ x _ u d' G) (λs' t' e'=>e'.casesOn λu' f' g' R h' i'=>?_) λj' j' k'=>be k';skip;refine aS<|(u.l g' R).o h' ((aq [1,1,0,1,1,0,1] I:ap 4 0 [.e .a<|.c 64,.a .a .b,.a .f .l,.e .l .b] (.e .f<|.c 64)) j E.a w L) λl' m' n' o'=>bC ⟨I,l',D++[f'],I,n',by simp[w],(F.i u.j (cn _) R).f o',J m' ?_⟩;simpa using i'
 case done=>rintro X⟨g,D,rfl,u,w,F,G⟩;rw[EQ]at w G;rw[tJ<|u0 E.a]at G;refine cF u.p λh m T p'=>?_;skip;exact aS<|listItems_at T I<|r g D h m u F T p' ((dR [1,0,1,1] [1,1,0,0,1] I I:ap 3 0 [.a .a .b,.a .f .b] (.a .f .a)) E.a w) (by haveI:K (D++[]) g.a:=G;rwa[dI]at this)
theorem wR{A:cR}{y:SortSt}{d:ba}{P:pc->bB->Prop}{x:U (V×V)}(S:hd B e a k b f c)(G:Z f<64)(H:xS y=au)(K:aX (fy y)<64)(L:ev (rU c) x (cx (fy y)))(q:∀j T n,j.a=c.a->aV B j->a8 (λd=>d=a\/d=k) e j->c6 c j->(∀l,j.a.h l->j.b l≠a)->j.d.heap.get? a=Y (dS "list" T n)->bm j (if d=an then(x.map iT).reverse else x.map iT) (cx T)->P (pd<|gp dL) j.d):bc (a7 B.b B.a) A (ksk_tail a d b (aN k) y) P bP c.d:=by
 revert f A y;revert B e c a k b d P x;refine@qt _<|eZ @(letI B:=_;letI e:=_;letI c:=_;letI a:=_;letI k:=_;letI b:=_;letI d:=_;letI P:=_;letI x:=_;(e2 ?_:eD _ _ _ _ _ _ B e c a k b d P x));intros;refine cF S.p λW m r M=>?_;skip;skip;refine aS<|xT r I ?_ (J j5<|r7 G<|ex M)<|f7 _;have C:∀d o,d≠k->c.d.heap.get? d=Y o->(c.d.heap.update k<|e8 λp=>#[]).get? d=Y o:=λd o t m=>(tZ _ _ _ _ t).trans m;refine aM (S.j.l (X:=(·=k)) (N:={c.d with heap:=c.d.heap.update k<|e8 λp=>#[]}) I (f3 r hX) S.h S.g (aF _ r hX) ⟨_,tU r λp=>#[]⟩ C I I) λE v=>?_;have s:=C _ _ (λm=>S.m m.symm) S.n;refine aS<|wpAny_letGo<|aS<|seqEpoch_at s I ?_;have N:aX (if d=an then((fy y).map (·.2)).reverse else(fy y).map (·.2))=aX (fy y):=by
  split
  .simp
  .simp
 refine aS<|xT s I (J H ?_) (f7 _)<|J N<|az j5<|(aq [1,1] I:ap 1 0 [.e .a<|.c 64] (.g .a<|.h<|.c 16777216)) K;simp only[FB,nC,po];refine bC ?_;haveI w:=tU s (λp=>if d=an then((fy y).map (·.2)).reverse else(fy y).map (·.2));refine aM (E.l (X:=(·=a)) (N:={c.d with heap:=(c.d.heap.update k<|e8 λp=>#[]).update a (e8 λp=>if d=an then((fy y).map (·.2)).reverse else(fy y).map (·.2))}) I (f3 s hX) S.q S.d (aF _ s hX) ⟨_,w⟩ (λa' o t m=>(tZ _ _ _ _ t).trans m) I I) λQ z=>?_;have D:=(v.a S.j<|f3 r hX).i<|z.a E<|f3 s hX;refine q ((c.h {c.d with heap:=c.d.heap.update k<|e8 λp=>#[]}).h {c.d with heap:=(c.d.heap.update k<|e8 λp=>#[]).update a (e8 λp=>if d=an then((fy y).map (·.2)).reverse else(fy y).map (·.2))}) _ _ I Q ((S.i.i<|v.k λd q=>a1 q).i<|z.k λd q=>aK q) D S.d w ?_;haveI R:∀u:bl,bm u (x.map iT) ((fy y).toList.map iT)->bm u (if d=an then(x.map iT).reverse else x.map iT) (cx (if d=an then((fy y).map (·.2)).reverse else(fy y).map (·.2))):=λu F=>by induction d with|true=>simp only[hO,RY,nA];exact F.p|false=>simp only[nC,po,nA];exact F
 exact R _<|(NE L).f D
end
end
section
variable{B:bZ}{z:O->a3 bg}{d:O}{e c:bl}{a k:aU}{f:O}{b:U V}
mutual
def rX(B:bZ)(e c:bl)(a k:aU)(f:ba)(b l:U V)(P:pc->bB->Prop):Prop:=∀d T n v,d.a=c.a->aV B d->a8 (λf=>f=a\/f=k) e d->c6 c d->(∀l,d.a.h l->d.b l≠a)->d.d.heap.get? a=Y (dS "list" T n)->bm d v (cx T)->hc f b l v->P (pd<|gp dL) d.d
theorem Bv(h:bm c b R)(y:∀g∈b,∃i,g=.a i):∃H,iU R H:=by refine h.j (λp=>⟨[],.nil⟩) (λp p p p h p d y=>bb ?_) y;intro j;refine bH (y _<|bu ..) λi f=>?_;subst f;exact bD h.d λD e=>bD (d λx M=>y x<|cm _ M) λH C=>⟨i::H,J e<|qV i D C⟩
theorem Cq(h:aY c (.a i) x):numOf x=i:=bH h.d λt g=>J g I
theorem ev.j{R:α->β->Prop}{P:α->Prop}{l:U α}{r:U β}(h:ev R l r)(a:∀x∈l,P x):ev (λx y=>R x y/\P x) l r:=by induction h with|d=>exact .d|b h _ c=>exact .b ⟨h,a _<|bu ..⟩<|c λx M=>a x<|cm _ M
theorem wS{x:U (V×V)}(A:x.Perm (b.zip l))(i:x.Pairwise λp q=>jb p.1 q.1):hc g b l<|if g=an then(x.map iT).reverse else x.map iT:=by induction g with|false=>exact⟨x,A,I,i⟩|true=>refine bO x.reverse ((SJ _).trans A) (by simp) ?_;skip;rw[SF];exact i
theorem AU{A:cR}{o:ba}{r:U V}{D:U aZ}{z:cQ aZ}{s:O}{P:pc->bB->Prop}(d':hd B e a k f b c)(x:bm c r D)(x':c.d.heap.get? k=Y (dS "list" z s))(R:bm c b (cx z))(E:Z b=Z r)(F:Z r<64)(W:∀m∈b,∃i,m=.a i)(e':rX B e c a k o b r P):bc (a7 B.b B.a) A (o7 a o (c1 D) f (aN k) z) P bP c.d:=by
 revert B e c a k f b A o r D z s P;refine@CF _<|h0 @(letI B:=_;letI e:=_;letI c:=_;letI a:=_;letI k:=_;letI f:=_;letI b:=_;letI A:=_;letI o:=_;letI r:=_;letI D:=_;letI z:=_;letI s:=_;letI P:=_;(ic ?_:he _ _ _ _ _ _ _ _ _ _ _ _ B e c a k f b A o r D z s P));intros;refine bH (Bv R W) λy' X=>?_;have w:aX (z.zip (c1 D))=Z r:=by rw[RX,ex R,mv,E,<-x.a,SY]
 have step:∀t,bc (a7 B.b B.a) A t P bP c.d->bc (a7 B.b B.a) A (if o=an then(do
  let _<-rule "list.sort.reverse";
  t)else t) P bP c.d:=by
  intro t h;split
  .exact aS<|ug h
  .exact h
 have G:(if o=an then(z.zip (c1 D)).reverse else z.zip (c1 D)).Perm<|z.zip (c1 D):=by induction o with|false=>exact T5 _|true=>exact RW.mpr<|J (a9 I)<|J RY<|SJ _
 have n:∀N:SortSt,(fy N).Perm (z.zip (c1 D))->xS N=au->SortedTo (fy N) (aX (fy N))->bc (a7 B.b B.a) A (ksk_tail a o f (aN k) N) P bP c.d:=λN u T H=>by
  refine ay (ev.q (RW.mp u) (by rw[ksk_zip];exact CI R x)) λf' M S=>?_;haveI g':(fy N).toList.Pairwise λp q=>numOf p.1<=numOf q.1:=by rw[iP];intro i j h' a' K;haveI q:=H i j (f4 K) (by simpa using a');rw[K_eq (by simpa using h'),K_eq (by simpa using a')]at q;exact q
  haveI i':f'.Pairwise λp q=>jb p.1 q.1:=ev.i (λp z' q A' y d b'=>by refine kJ y λL i j'=>aM L λy C=>kJ d λL j k'=>aM L λd C=>?_;rw[j']at y⊢;rw[k']at d⊢;rw[Cq y,Cq d]at b';exact b') (S.j λp u=>W p.1 (List.of_mem_zip<|M.mem_iff.mp u).1) g';exact wR d' ((aq [1,1,0,1] I:ap 2 0 [.a .a .b,.e .b<|.c 64] (.e .a<|.c 64)) E F) T (J u.size_eq<|J w F) S λl' m' n' s o' p' q' r' s' t'=>e' l' m' n' _ s o' p' q' r' s' t'<|wS M i'
 delta o7;dsimp only;refine step _ ?_;by_cases d:aX D.toArray<2
 .refine J (a9 d)<|J (a9 d)<|aS<|bC ?_;rw[T0];refine aS<|bC ?_;skip;refine n (Ta general' (if o=an then(z.zip (c1 D)).reverse else z.zip (c1 D)) #[] 7 au) G I ?_;intro i j K c';rw[G.size_eq,w]at c';rw[mv]at d;haveI:i=j:=(dR [1,0,0,0,1] [1,1,0,1,0,1] I I:ap 4 0 [.a .a .b,.e .b<|.c 2,.g .f .l,.e .l .a] (.a .f .l)) x.a d K c';exact J this<|gz _
 .refine J (bf d)<|J (bf d) ?_;rw[mv]at d;refine J (ksk_kind X<|J (ex R)<|(aq [1,0,1,0,1,1] I:ap 3 0 [.a .a .b,.a .b .f,.f<|.e .f<|.c 2] (.g (.c 2) .a)) E x.a d)<|aS<|bC<|aS<|c3 (wpS_sortRuns (Q:=λC v=>(fy v).Perm (z.zip (c1 D))/\xS v=au/\SortedTo (fy v) (aX (z.zip (c1 D)))) (ksk_intKeys X) ⟨G,I,I,I⟩ (J w<|(aq [1,0,1,1] I:ap 2 0 [.a .a .b,.f<|.e .b<|.c 2] (.g (.c 2) .a)) x.a d) (J w F) λv u' v' w'=>aP u' v' w') ?_ λC C s=>s;rintro⟨⟨⟩,v⟩B'⟨rfl,u,T,H⟩;skip;exact n v u T<|J u.size_eq H
inductive k6:ba->V->am->Prop|d(j:am):k6 ax (.a j) j|b(c:ba):k6 an (.h c)<|b2i c
inductive ka(t:ba):V->am->am->Prop|mk{i p:am}{w:V}(h:k6 t w p):ka t (.g [.a i,w]) i p
def CY:V->am|.a j=>j|.h b=>b2i b|_=>0
def CD:V->am×am|.g [.a i,w]=>(i,CY w)|_=>(0,0)
theorem k6.l(h:k6 t w p):CY w=p:=by induction h<;>rfl
theorem ka.h(a:ka t x i p):CD x=(i,p):=by induction a with|mk a=>exact aW (Prod.mk _) a.l
@[elab_as_elim]theorem xb{i:am}{w:V}{d:aZ}{P:aZ->Prop}(h:aY c (.g [.a i,w]) d)(k:∀W v n t,c.d.heap.get? W=Y ⟨bq "tuple",au,c9 #[cS i t,v] n,#[]⟩->aY c w v->P (aN W)):P d:=by refine bb ?_;intro p;refine e5 h.n λW S n B e f=>?_;subst B;obtain⟨j⟩:=S;change bm c _ j at f;cases f with|b x t=>cases t with|b T t=>cases t;refine bH x.d λD l=>?_;subst l;exact k _ _ _ _ e T
theorem N9(h:k6 t w p)(f:k6 t i q)(P:aY c w v)(a:aY c i S)(k:G (a0<|p=q) c.d):bc (a7 B.b B.a) A (eqBool v S) G bP c.d:=by
 induction h with
 |d j=>cases f with|d=>exact(oE (hB.a _ _) P a).g _ _ _ _<|J (j6.mpr ⟨V.a.inj,aW _⟩) k
 |b j=>cases f with|b l=>exact(oE (hB.h _ _) P a).g _ _ _ _<|J (j6.mpr ⟨λe=>J (V.h.inj e) I,(by clear P a k;induction j<;>induction l<;>first|exactλm=>I|exactλe=>aC e ar)⟩) k
theorem Oa(h:k6 t w p)(a:k6 t g q)(P:aY c w v)(f:aY c g S)(k:G (jw<|a0<|p<q) c.d):bc (a7 B.b B.a) A (t6 .Lt v S) G bP c.d:=by
 induction h with
 |d j=>cases a with|d=>exact bD P.d λi e=>bD f.d λi l=>J e<|J l<|Tc k
 |b j=>cases a with|b m=>exact J P.m<|J f.m<|Ue k
theorem Le(e:a0 (V.a i=V.a j)=an)(n:a0 (p=q)=an):ax=fj (i,p) (j,q):=(io λg=>aE g (λg=>Eu g<|V.a.inj<|fa e) λg=>Eu g.2<|fa n).symm
theorem Lf(e:a0 (V.a i=V.a j)=an):a0 (p<q)=fj (i,p) (j,q):=j6.mpr ⟨λg=>a1 ⟨V.a.inj<|fa e,g⟩,λg=>aE g (λg=>aA (V.a.inj<|fa e)<|Eu g) And.right⟩
theorem Lg(e:a0 (V.a i=V.a j)=ax):a0 (i<j)=fj (i,p) (j,q):=j6.mpr ⟨aK,λg=>aE g id λg=>aA (aW V.a g.1)<|rK e⟩
theorem Nv(n:ka t x i p)(o:ka t y j q)(M:aY c x l)(r:aY c y m)(h:Q (fj (i,p) (j,q)) c.d):bc (a7 B.b B.a) A (keyLt' (tuples' an) l m) Q bP c.d:=by induction n with|@mk i p _ b=>induction o with|@mk j q _ d=>exact xb M λw l z R s f=>xb r λL m C v X k=>kat_lt s I X I<|kat_cons<|(oE (c:=c) (hB.a i j) (.a i R)<|.a j v).g _ _ _ _<|kat_go (λe=>kat_yes<|kat_cons<|N9 b d f k<|kat_go (λu=>kat_yes<|kat_nil (Le e u▸h:Q ax c.d)) λD=>kat_no<|kat_one _ _<|Oa b d f k<|J (Lf e) h) λe=>kat_no<|oneLt_int<|J (Lg e) h
theorem nf.q(h:nf b):∃t,∀g∈b,∃i p,ka t g i p:=aE h (λh=>⟨ax,λg T=>f2 (h g T) λi j e=>fu i j<|J e<|.mk<|.d j⟩) λh=>⟨an,λg T=>f2 (h g T) λi a e=>fu i (b2i a)<|J e<|.mk<|.b a⟩
theorem ka.g(M:ka t x i p)(l:ka t y j q)(c:fj (j,q) (i,p)=ax):jb x y:=by
 haveI A:∀{P:Prop},(p<=q->P)->i<j\/i=j/\P:=λk=>(Int.lt_or_eq_of_le<|gW.mp λa=>(rK c)<|aK a).imp_right λe=>⟨e,k<|gW.mp λa=>(rK c)<|a1 ⟨e.symm,a⟩⟩;induction M with
 |mk h=>
  induction l with
  |mk f=>
   induction h with
   |d j=>cases f with|d=>exact A id
   |b j=>cases f with|b k=>exact A λa e=>by subst e;induction k<;>first|rfl|exact aA a as
theorem Ip(h:bm c b R)(d:∀j∈b,∃i p,ka t j i p):∃g,KatTups (bz c.d) R g/\Z g=Z b/\∀v∈g,∃i t,v=cS i t:=by refine h.j (λa=>bO [] .nil I λa h=>aC h ar) (λa a a a h a f d=>ch (f λx M=>d x<|cm _ M) λg A l Q=>f2 (d _<|bu ..) λi p k=>?_) d;induction k with|mk _=>exact xb h λW v n D e a=>bO (cS _ D::g) (.cons e I I I A) (aW di l) λv P=>aE (cu.mp P) (λe=>⟨_,_,e⟩)<|Q v
theorem Ih{R:(V×V)->(aZ×aZ)->Prop}{p:U O}(h:∀i∈p,R (l i) (g i)):ev R (p.map l)<|p.map g:=by induction p with|nil=>exact .d|cons i t a=>exact .b (h i<|bu ..)<|a λj s=>h j<|cm _ s
theorem RM(x:Z b=Z l):(b2 (Z l)).map (λi=>(bS b i V.d,bS l i V.d))=b.zip l:=by
 apply qQ;intro i;by_cases y:i<Z l
 .simp[y,x,cl]
 .exact J (gX (by simpa using y))<|J (gX<|J Sz<|J x<|(aq [1,1,1] I:ap 3 0 [.f<|.e .a .b,.a .f .b] (.g .f .a)) y<|iS<|@Gz _) I
theorem H4{A:cR}{o:U V}{D:U aZ}{z:cQ aZ}{u:O}{P:pc->bB->Prop}(j':hd B e a k f b c)(v:bm c o D)(M':c.d.heap.get? k=Y (dS "list" z u))(R:bm c b (cx z))(w:Z b=Z o)(E:Z o<=4)(F:nf b)(q:rX B e c a k ax b o P):bc (a7 B.b B.a) A (o7 a ax (c1 D) f (aN k) z) P bP c.d:=by
 revert B e c a k f b A o D z u P;refine@fk _<|eZ @(letI B:=_;letI e:=_;letI c:=_;letI a:=_;letI k:=_;letI f:=_;letI b:=_;letI A:=_;letI o:=_;letI D:=_;letI z:=_;letI u:=_;letI P:=_;(e2 ?_:eD _ _ B e c a k f b A o D z u P));intros;have s:=v.a;unfold o7;try dsimp only
 skip;by_cases r:aX D.toArray<2
 .refine J (a9 r)<|J (a9 r)<|aS<|bC ?_;rw[T0];refine aS<|bC ?_;skip;replace r:=mv▸r;refine wR (y:=Ta general' (z.zip (c1 D)) #[] 7 au) j' ((aq [1,1,0,1,0,1] I:ap 3 0 [.a .a .b,.a .b .f,.e .f<|.c 2] (.e .a<|.c 64)) w s r) I (J (by rw[RX,ex R,mv,w,<-s,SY]:(z.zip D.toArray).size=o.length)<|(aq [1,1,0,1] I:ap 2 0 [.a .a .b,.e .b<|.c 2] (.e .a<|.c 64)) s r) (by rw[ksk_zip];exact CI R v) λx C M u S a' b' c' d' H=>q x C M _ u S a' b' c' d' H<|wS (qO _) ?_;match b.zip o,(J Sz<|(aq [1,1,0,1,1] I:ap 3 0 [.a .a .b,.e .b<|.c 2,.g .f .a] (.e .f<|.c 2)) s r<|EN _ _:Z (b.zip o)<2)with|[],_=>exact tH|[_],_=>exact xG _ _|_::_::_,q=>exact aA q (by skip;exact@Gu _)
 .refine J (bf r)<|J (bf r) ?_;replace r:=mv▸r;refine bH F.q λm' F=>ch (Ip R F) λN' n' o' p'=>?_;haveI q':z=c1 (cx z):=by simp
  refine az q' ?_;refine aS<|kat_kind (T:=bq "int") n' ((aq [1,0,1,0,1,1,0,1] I:ap 4 0 [.a .a .b,.a .b .f,.f<|.e .f<|.c 2,.a .l .a] (.e .i .l)) w s r o') (λr' H=>?_) as ?_
  .exact f2 (p' r' H) λm m' s'=>J s'<|Looks.of_pure I
  have t':(bq "int"!=bq "tuple")=an:=by decide
  refine J t'<|ch (Ra (n:=Z D) (zC r) ((aq [1,1,0,1] I:ap 2 0 [.g .a<|.c 4,.a .a .b] (.g .b<|.c 4)) E s) λm=>CD<|bS b m .d) λp u' e' v'=>?_;have K:∀m,m<Z D->bS b m .d∈b/\aY c (bS b m .d) (bS z.toList m dL):=λm y=>by haveI L:=cl (by exact(aq [1,0,1,0,1,1] I:ap 4 0 [.a .a .b,.a .b .f,.e .l .f] (.e .l .a)) w s y);exact ay (R.g L) λf' g' E=>J (show bS b m .d=b[m]from by refine J ih<|J L ?_;rfl)<|J (show bS z.toList m dL=f' from by refine J ih<|J g' ?_;rfl) ⟨kN _,E⟩
  have w':(x2 (Z D)).kasWp (kas_ask B.b B.a A (tuples' an) (cx z)) (λt X=>t=p/\X=c.d) c.d:=JY (λm j O' y h' x'=>aM (K m y) λy' z'=>aM (K j h') λA' B'=>f2 (F _ y') λm p N=>f2 (F _ A') λj t W=>Nv N W z' B'<|az N.h<|az W.h x') u' ⟨I,I⟩;refine aS<|c3 (kat_run (Q:=λG X=>X=c.d/\fy G=p.map (kas_item<|z.toList.toArray.zip (c1 D))/\xS G=au) (az R.a<|zB w s) (zC r) (zD E s) (λP' G X Q' C' D' E'=>aM E' λF' G'=>by subst F' G';exact aP I C' D') w') ?_ λh h u=>u;rintro⟨⟨⟩,G⟩X⟨rfl,k',H'⟩;skip;have i':∀m∈(cx p),m<Z D:=λm y=>ed.mp<|e'.mem_iff.mp y;haveI I':ev (rU c) (p.toList.map λm=>(bS b m .d,bS o m .d)) (cx (fy G)):=by refine J k'<|J nA<|Ih λm y=>?_;have l':=i' m y;rw[kat_item (by exact az R.a<|zB w s)];refine⟨(K m l').2,?_⟩;haveI L:=cl<|pE s l';exact ay (v.g L) λf' g' E=>J (show bS o m .d=o[m]from by refine J ih<|J L ?_;rfl)<|J (show bS D m dL=f' from by refine J ih<|J g' ?_;rfl) E
  have J':(p.toList.map λm=>(bS b m V.d,bS o m V.d)).Perm<|b.zip o:=by haveI:=e'.map λm=>(bS b m V.d,bS o m V.d);rw[<-s,RM w]at this;exact this
  have K':(p.toList.map λm=>(bS b m V.d,bS o m V.d)).Pairwise λp t=>jb p.1 t.1:=by rw[iQ];exact v'.imp_of_mem λ{m j}y h' L'=>f2 (F _ (K m<|i' m y).1) λh h N=>f2 (F _ (K j<|i' j h').1) λh h W=>N.g W<|az N.h<|az W.h L'
  exact wR j' ((aq [1,1,0,1] I:ap 2 0 [.a .a .b,.g .b<|.c 4] (.e .a<|.c 64)) w E) H' (J (show aX (fy G)=Z p.toList from by refine J k' ?_;simp)<|J (fK e')<|J ec<|zD E s) I' λx C M u S a' b' c' d' H=>q x C M _ u S a' b' c' d' H<|wS J' K'
end
end
section
variable{B:bZ}{a:bT}{z:O->a3 bg}{d:O}
mutual
theorem Kr(h:(ga B.b B.a).is k v=an):∃t,v=cS k t:=by induction v<;>simp[ga,ph]at h;subst h;exact⟨_,I⟩
set_option tactic.hygienic true in theorem AJ(f':B.e){A:cR}{f:bl}{v:V}{x:aZ}{l:U V}{P:U aZ->bB->Prop}(Q:A.handled=au)(R:aV B f)(M:aY f v x)(d:f.a.k v=Y l)(m:Z l<64)(k:∀X D,cj f.d X->bm (f.h X) l D->P D X):bc (a7 B.b B.a) A (collect x) P bP f.d:=by
 delta av.k at d;cases q:f.a.i v with
 |some g'=>rw[q]at d;cases bE d;refine hw (R.e M q) λW G n S s h h'=>?_;refine J S ?_;haveI b:f.d.heap.IsList W (c1 G.toList):=d8 _ s I n (by simp);haveI H:cj f.d {f.d with heap:=(co f.d.heap<|dS "list" #[] 0).update (aX f.d.heap.objs) (e8 (·++c1 G.toList))}:=⟨λi' j' d=>(tZ _ _ _ _<|bj<|d3 d).trans<|dJ _ d,I,I⟩;exact collect_list b (k _ _ H<|h.f<|(a8.h ce H).a R<|cn _) (by exact J j5<|J jk<|r7 m<|ex h)
 |none=>
  rw[q]at d;dsimp only at d;cases u:f.a.r v with
  |none=>replace d:=u▸d;cases d
  |some j=>
   replace d:=u▸d;injection d with d;subst d;refine bb ?_;intro k';obtain⟨W,C,rfl,s,h,l',_,m',n',o⟩:=R.v M u;obtain⟨p,t⟩:=s.dictAt;have K:Z C=Z j:=by haveI:=aW Z h.g;simpa using this
   refine kdu_collect (kdl_dict (knd:=ga B.b B.a) (kvs:=C) (ep:=p) o) Q t (by refine J K<|J j5 ?_;simp at m;exact(aq [1,1] I:ap 1 0 [.e .a<|.c 64] (.g .a<|.c 16777216)) m) λo' p' L w N=>?_;refine k _ _ ⟨w,I,I⟩<|bm.k (by haveI y:=N.1;haveI z:Z L.toList=aX L:=jk;refine(?_:Z (j.map _)=_);rw[bv,z,y,K]) λi q' a' E F=>?_;replace F:=hI▸F;refine cF (N.2 i a' F) λr' s' b' c'=>?_;refine bH (Kr c') λd' e'=>?_;refine J e' ?_;replace E:=fL▸E;haveI r:(C.map (·.1))[i]?=(j.map (·.1))[i]?:=by exact az h.g I
   rw[fL,fL,b']at r;cases T:j[i]?with|none=>rw[T]at E;exact aC E ar|some t'=>rw[T]at E r;simp at E r;exact az E<|az r<|.a _ d'
theorem DW{A:cR}{c:bl}{y:aU}{n:O}{L:aZ}{M:O}{N l:U V}{C:U aZ}{b:ba}{G:U V->av->Prop}{P:pc->bB->Prop}(R:aV B c)(g':B.c.get? y=au)(h':∀l,c.a.h l->c.b l≠y)(H:c.d.heap.get? y=Y (dS "list" (c1 C) n))(g:bm c l C)(b':Z l<64)(p':iB (aO z d) M N l G c.a)(q':∀j v x(Q:V->av->Prop),aV B j->aY j v x->(∀b p,b≠y->c.d.heap.get? b=Y p->(∀l,c.a.h l->c.b l≠b)->j.d.heap.get? b=Y p)->(∀p,c.a.f p=an->j.a.f p=an/\j.c p=c.c p)->aO z d M (N++[v]) Q j.a->bc (a7 B.b B.a) A (e9 L [x]) (bd B j Q) bP j.d)(r':∀W s w j D r e,hd B W y s w D j->bm j l C->j.d.heap.get? s=Y (dS "list" r e)->bm j D (cx r)->Z D=Z l->G D j.a->rX B W j y s b D l P->bc (a7 B.b B.a) A (o7 y b (c1 C) w (aN s) r) P bP j.d)(F:∀j t m u D,aV B j->a8 (·=y) c j->(∀l,j.a.h l->j.b l≠y)->j.d.heap.get? y=Y (dS "list" t m)->bm j u (cx t)->hc b D l u->G D j.a->P (pd<|gp dL) j.d):bc (a7 B.b B.a) A (ksk_tree y L b) P bP c.d:=by
 revert B z d A c y n L M N l C b G P;refine@wv _<|h0 @(letI B:=_;letI z:=_;letI d:=_;letI A:=_;letI c:=_;letI y:=_;letI n:=_;letI L:=_;letI M:=_;letI N:=_;letI l:=_;letI C:=_;letI b:=_;letI G:=_;letI P:=_;(ic ?_:he _ _ _ _ _ _ _ _ _ _ _ B z d A c y n L M N l C b G P));intros;haveI q:=g.a;haveI c':=tU H λE=>#[];refine aM (R.l (X:=(·=y)) (N:={c.d with heap:=c.d.heap.update y<|e8 λE=>#[]}) I (f3 H hX) g' h' (aF _ H hX) ⟨_,c'⟩ (λb p d' e=>(tZ _ _ _ _ d').trans e:∀b p,b≠y->c.d.heap.get? b=Y p->(c.d.heap.update y<|e8 λE=>#[]).get? b=Y p) I I) λi' j'=>?_;skip;refine aS<|listItems_at H I<|aS<|xT H I (aS<|seqEpoch_at c' I<|aS<|TR (aS<|rH (eh ?_)<|f7 _) (J j5<|u2 b' q:Z C<=_)) (J mv<|J j5<|u2 b' q)<|f7 _;haveI S:cj {c.d with heap:=c.d.heap.update y<|e8 λE=>#[]} {c.d with heap:=co (co (c.d.heap.update y<|e8 λE=>#[])<|dS "tuple" (c1 C) 0)<|dS "list" #[] 0}:=⟨λb p e=>dJ _<|dJ _ e,I,I⟩;have k':aX (co (c.d.heap.update y<|e8 λE=>#[])<|dS "tuple" (c1 C) 0).objs=aX c.d.heap.objs+1:=by rw[size_push',Heap.size_update]
 haveI e':c.d.heap.get? (aX c.d.heap.objs+1)=au:=Ts<|cO _;haveI t':hd B ((c.h {c.d with heap:=c.d.heap.update y<|e8 λE=>#[]}).h {c.d with heap:=co (co (c.d.heap.update y<|e8 λE=>#[])<|dS "tuple" (c1 C) 0)<|dS "list" #[] 0}) y (aX c.d.heap.objs+1) _ []<|(c.h {c.d with heap:=c.d.heap.update y<|e8 λE=>#[]}).h {c.d with heap:=co (co (c.d.heap.update y<|e8 λE=>#[])<|dS "tuple" (c1 C) 0)<|dS "list" #[] 0}:=⟨i'.h S,a8.j _ _,g',oq R e',gB<|er<|d3 H,h',(λl g e=>by refine ay (R.b g) λp l' E=>?_;rw[show c.b l=aX c.d.heap.objs+1 from e,e']at l';exact aC l' ar),S.p _ _ c',_,_,az k'<|d2 _ I,.d⟩;refine J k' ?_;have m':∀j,a8 (λb=>b=y\/b=aX c.d.heap.objs+1) ((c.h {c.d with heap:=c.d.heap.update y<|e8 λE=>#[]}).h {c.d with heap:=co (co (c.d.heap.update y<|e8 λE=>#[])<|dS "tuple" (c1 C) 0)<|dS "list" #[] 0}) j->a8 (·=y) c j:=λj T=>(((j'.i<|a8.h _ S).k λb F=>(aK F:b=y\/b=aX c.d.heap.objs+1)).i T).o λb F=>by
  rcases F with F|F
  .exact aK F
  .right;exact J F e'
 exact NQ (K:=G) (λj D v x Q a' f' u'=>have T:=m' j a'.i;q' j v x Q a'.j f' (λb p d' e q=>T.p b p e d' q) T.f u') t' ((g.f<|j'.a R<|f3 H hX).f<|(a8.h ce S).a i'<|cn _) b' p' λj D r e a' v' w' x' y' n'=>r' _ _ _ j D r e a' v' w' x' y' n' λo' t m u z' A' B' F' C' D' f' E'=>F o' t m u D A' (m' o' B') C' D' f' E'<|J z' n'
end
end
section
variable{B:bZ}{a:bT}{z:O->a3 bg}{d:O}{b:O->aU}
mutual
theorem da.g(f:da A d):iX A.in1.in1 d:=⟨f.a,uX f.b,(aq [1,1] I:ap 2 0 [.e (.e .a<|.m 60 .b)<|.c 9000] (.e (.e (.h<|.h .a)<|.m 60 .b)<|.c 9050)) f.c⟩
theorem da.h(f:da A d):iX A.in1 d:=⟨f.a,uX f.b,(aq [1,1] I:ap 2 0 [.e (.e .a<|.m 60 .b)<|.c 9000] (.e (.e (.h .a)<|.m 60 .b)<|.c 9050)) f.c⟩
theorem Da{A:cR}{i:bl}{k:aZ}{K:U am}{Q:V->av->Prop}(R:aV B i)(z:∀P:U aZ->bB->Prop,(∀X D f,cj i.d X->iU D f->f.Perm K->P D X)->bc (a7 B.b B.a) A.in1 (collect k) P bP i.d)(w:Z K<64)(q:∀T:U am,T.Perm K->T.Pairwise (·<=·)->Q (.e i.a.d) (i.a.b<|.e<|T.map V.a)):bc (a7 B.b B.a) A (e9 (cH "sorted") [k]) (bd B i Q) bP i.d:=by
 refine Calls.call_function_entry kind_sorted plain_sorted entry_sorted (args_sorted1 _) ?_;skip;refine aS (m:=checkCount "sorted" 1 1 _)<|bC<|aS<|z _ λX D b' g l p=>haveI r:Z D=Z K:=J l.length<|J (fK p) I;aS<|rH ?_<|az j5<|r7 w r;refine aS<|eh<|rF EU ⟨_,(d2 _ I:(co X.heap<|dS "list" (c1 D) 0).get? (aX X.heap.objs)=Y (dS "list" (c1 D) 0)),I⟩ ET ?body<|args_list_sort _;refine list_sort_tree (s:={X with heap:=co X.heap<|dS "list" (c1 D) 0}) (d2 _ I:(co X.heap<|dS "list" (c1 D) 0).get? (aX X.heap.objs)=Y (dS "list" (c1 D) 0)) l ((aq [1,1,1] I:ap 2 0 [.e .a<|.c 64,.a .b .a] (.e .b<|.c 64)) w r) λT f C E F=>aF _ I<|bC ⟨_,I,bH (sortedHeap_at (out:=T) (d2 _ I:(co X.heap<|dS "list" (c1 D) 0).get? (aX X.heap.objs)=Y (dS "list" (c1 D) 0))) λH u=>?_⟩;haveI v:=λG o L=>haveI j:=g.p G o L;(sortedHeap_old (h:=co X.heap<|dS "list" (c1 D) 0) (vs:=D) (out:=T) (bj<|d3 j)<|J (size_push' _ _)<|er<|d3 j).trans<|dJ _ j;generalize sortedHeap (co X.heap<|dS "list" (c1 D) 0) (aX X.heap.objs) D T=M at v u⊢;haveI N:i.d.heap.get? (aX X.heap.objs)=au:=by cases q:i.d.heap.get? (aX X.heap.objs)with|none=>rfl|some o=>exact aA (d3<|g.p _ _ q)<|f5 _
 haveI S:∀{D:U aZ}{K:U am}{y:bl},iU D K->bm y (K.map V.a) D:=by intro D K y W;induction W with|nil=>exact .d|cons n t _ a'=>exact .b (.a n t) a'
 exact bd.u (x:=.e<|f.map V.a) R (⟨v,g.j,g.f⟩:cj i.d {X with heap:=M}) bk N (dr T H u<|S C)<|q _ (E.trans p) F
theorem Pw(m:B.e)(o:A.handled=au)(R:aV B c)(M:aY c v x)(u:c.a.k v=Y l)(y:iu l)(w:Z l<64)(q:∀T,hc ax l l T->Q (.e c.a.d) (c.a.b<|.e T)):bc (a7 B.b B.a) A (e9 (cH "sorted") [x]) (bd B c Q) bP c.d:=by
 haveI C:∀{l:U V},iu l->∃K:U am,l=K.map V.a:=by intro l h;induction l with|nil=>exact⟨[],I⟩|cons v r d=>refine bH (h v<|bu ..) λi f=>J f<|bH (d λz E=>h z<|cm _ E) λK j=>?_;subst j;exact⟨i::K,I⟩
 refine bb ?_;intro H;refine bH (C y) λK j=>?_;subst j;rw[bv]at w;refine Da R (λP k=>AJ m o R M u (by rw[bv];exact w) λX D g F=>?_) w λT p s=>q _<|bO (T.map λi=>(V.a i,V.a i)) (J SO<|p.map λi=>(V.a i,V.a i)) (J go I) ?_
 .haveI:∀{K:U am}{D:U aZ},bm (c.h X) (K.map V.a) D->iU D K:=by intro K;induction K with|nil=>intro D h;cases h;exact .nil|cons n r d=>intro D h;cases h with|b a G=>exact bH a.d λt f=>J f<|qV n t<|d G
  exact k X D K g (this F)<|qO _
 .rw[iQ];skip;exact s
theorem Ph(g:B.e)(j:dP B a "sorted" (cH "sorted"))(s:a6 B a z d f e)(k:cr e=an):a6 B a z d (.ah f)<|cz (bR "sorted" p) [e] [] S:=λA T L c Q i F R h=>kf g j s k i F R h λW v x G o n M q=>dC (bF.a q) λl m y w q=>c3 (Pw g i.a G M m y w q) (λb b p=>bd.i n p) λb b h=>h
theorem Db(f':B.e){K:U V->av->Prop}(g':A.handled=au)(R:aV B c)(h':aY c v r)(L:c.a.k v=Y l)(b:Z l<64)(i':rw "sorted" ⟨[r],E⟩)(j':∀y,rw "list.sort" ⟨[aN y],E⟩)(k':∀y,Builtin.«list.sort» ⟨[aN y],E⟩=ksk_tree y G p)(l':iB (aO z d) f H l K c.a)(m':∀j v r Q,aV B j->aY j v r->(∀p n,c.d.heap.get? p=Y n->(∀l,c.a.h l->c.b l≠p)->j.d.heap.get? p=Y n)->(∀n,c.a.f n=an->j.a.f n=an/\j.c n=c.c n)->aO z d f (H++[v]) Q j.a->bc (a7 B.b B.a) A.in1.in1 (e9 G [r]) (bd B j Q) bP j.d)(n':∀W F t w j D s u L P,hd B W F t w D j->bm j l s->j.d.heap.get? t=Y (dS "list" u L)->bm j D (cx u)->Z D=Z l->K D j.a->rX B W j F t p D l P->bc (a7 B.b B.a) A.in1.in1 (o7 F p (c1 s) w (aN t) u) P bP j.d)(q:∀D C N,K D N->hc p D l C->Q (.e N.d) (N.b<|.e C)):bc (a7 B.b B.a) A (e9 (cH "sorted") [r] E) (bd B c Q) bP c.d:=by
 refine call_function_entry_kw kind_sorted plain_sorted entry_sorted i' ?_;skip;refine aS<|bC<|aS<|AJ f' g' R h' L b λX s g S=>haveI h:=S.a;aS<|rH ?_<|J j5<|u2 b h;haveI m:cj c.d {X with heap:=co X.heap<|dS "list" (c1 s) 0}:=g.i<|cj.o _ _;have M:c.d.heap.get? (aX X.heap.objs)=au:=by cases q:c.d.heap.get? (aX X.heap.objs)with|none=>rfl|some n=>exact aA (d3<|g.p _ _ q)<|f5 _
 haveI o':∀l,c.a.h l->c.b l≠aX X.heap.objs:=λl S L=>by refine ay (R.b S) λn e' T=>?_;rw[L,M]at e';exact aC e' ar
 refine aS<|eh<|Td EU ⟨_,d2 _ I,I⟩ ET ?body<|j' _;case body=>exact J (k' (aX X.heap.objs))<|DW (R.h m) (oq R M) o' (d2 _ I) (S.f<|(a8.h ce<|cj.o X<|dS "list" (c1 s) 0).a (R.h g)<|cn _) b l' (λj v r Q a' b' p' q' r'=>m' j v r Q a' b' (λp n L h=>p' p n (λs'=>by replace L:=M▸s'▸L;exact aC L ar) (m.p p n L) h) q' r') (λW t w j D u L=>n' W _ t w j D s u L _) λj C t' c' D a' u' v' w' b' x' y'=>aF _ I<|bC ⟨_,I,en (a'.C (x:=.e c') bk v' (dr C t' w' b') ((((a8.h _ m:a8 ce c (c.h {X with heap:=co X.heap<|dS "list" (c1 s) 0})).k λT d'=>be d').i u').o λp d'=>a1<|J d' M) R M) λz' A' B' T=>.mk (j.u j.d (aX X.heap.objs)<|.e c') (.e j.a.d) z' A' (.e (b7 _) λT=>(J (a9 I) I:aX X.heap.objs=(if j.a.d=j.a.d then(aX X.heap.objs)else _)))<|q D c' j.a y' x'⟩
theorem Pi(o:B.e)(u:i4 B z d b)(m:dP B a "sorted" (cH "sorted"))(w:a6 B a z d k e)(n:cr e=an)(C:a.d.lookup g=Y gF)(D:fA B.d eO g=Y (Y<|aN<|b f))(H:(g==("__debug__"))=ax):a6 B a z d (.M k f)<|cz (bR "sorted" p) [e] [⟨Y "key",bR g E,j⟩] i:=λe' T f' g' h' r F R h=>J (I:dU (cz (bR "sorted" p) [e] [⟨Y "key",bR g E,j⟩] i) T=(do
 ry i (<-dU (bR "sorted" p) T) [] (hN i<|g6 [e] T) (mG i<|mH [⟨Y "key",bR g E,j⟩] T)))<|aS<|nk o F R m.c m.f m.b m.d (callWith_kw (o5 (w.e r F R h λi' v x G K N W q=>o6<|dC (bF.a q) λj' X k' t q=>tV<|wa o K G C D (kws_nil<|c3 (Db o r.a G W X (u3 t) (ksk_s1 _ _) (λy=>ksk_l1 _ _) (λy=>ksk_t1 _ _) q (λc v x l' l A j m' L=>u.r r.g l (.b A .d) L) (λn' k o' p' c P q' r' e s' S Q C a' b' q c'=>H4 S Q C a' b' t q.1 c') λP d' t' q n=>q.2 d' n) (λs s p=>bd.i N p) λs s h=>h) H)<|f1 n) (J (f1 n) I)<|J (f1 n) I) m.l
theorem Bb(h:B.e)(K:i0 B.d)(R:aV B c)(j:c.a.f o=an)(a:mQ B.d o g i)(x:lg f g=an)(m:f=0->c.a.j o 31=.d)(p:Fc B.d (aN i) "__get__"=Y (Y<|cH "function.__get__"))(r:takesIn B.d (aN i)=Y ax)(s:Fa.contains g=ax)(k:∀X q,cj c.d X->c.d.heap.get? q=au->X.heap.get? q=Y (Fb (aN i)<|aN<|c.c o)->P (aN q) X):bc (a7 B.b B.a) A (x7 (aN<|c.c o) g l) P bP c.d:=dd (R.y j) λu n v t z=>get_bind (R.t h) z (K.c o) (findObj_fn (K.l o) a.t p r s (by rw[lookIn_dict,A8 t x m])) a.c<|rE<|fn_get (R.t h) a.b<|handed_on I<|k _ _ ⟨λb o e=>dJ _ e,I,I⟩ aV.k<|d2 _ I
structure rQ(K:et)(f:aU)(A:aQ):Prop where
 a:Fc K (aN f) "__get__"=Y (Y<|cH "function.__get__")
 b:takesIn K (aN f)=Y ax
 y:Fa.contains A=ax
theorem BK(j:B.e)(k:i4 B z d b){W a:bl}(c:iX A d)(M:a.d.heap.get? q=Y (Fb (aN<|b f)<|aN<|W.c 0))(E:a.a.f 0=an/\a.c 0=W.c 0)(g:aV B a)(P:aY a v x)(h:aO z d f ([.b 0]++[v]) Q a.a):bc (a7 B.b B.a) A (e9 (aN q) [x]) (bd B a Q) bP a.d:=rE<|method_call M (nN (k f A a Q [.b 0,v] [aN<|W.c 0,x] c g (.b (az E.2<|.b 0 E.1)<|.b P .d) h) λr X i=>by rcases r with e|(v|_|_|_)<;>exact i)
theorem Pj(G:B.e)(Q:i0 B.d)(S:i4 B z d b)(D:dP B a "sorted" (cH "sorted"))(a':a6 B a z d t e)(E:cr e=an)(b':a6 B a z d o m)(c':hq m=an)(d':mQ B.d 0 j (b f))(N:rQ B.d (b f) j)(X:lg f j=an)(e':f≠0):a6 B a z d (.W t o f s)<|cz (bR "sorted" p) [e] [⟨Y "key",dT m j u,n⟩,⟨Y "reverse",gE (gZ s) k w,C⟩] r:=λE' T F' G' H' H F R h=>by
 refine J (I:dU (cz (bR "sorted" p) [e] [⟨Y "key",dT m j u,n⟩,⟨Y "reverse",gE (gZ s) k w,C⟩] r) T=(do
  ry r (<-dU (bR "sorted" p) T) [] (hN r<|g6 [e] T) (mG r<|mH [⟨Y "key",dT m j u,n⟩,⟨Y "reverse",gE (gZ s) k w,C⟩] T)))<|aS<|nk G F R D.c D.f D.b D.d (callWith_kw (o5 (a'.e H F R h λI' f' g' l h' i' j' q=>o6<|tV<|vL c'<|b'.e H h' l q λv J' K' K L' x k' q=>bb ?_)<|f1 E) (J (f1 E) I)<|J (f1 E) I) D.l;intro M';obtain⟨rfl,q⟩:=q;refine dC (bF.a q) λy l' N' A q=>aM k'.o λm' L=>?_;subst m';refine Bb G Q K L d' X (λe=>aA e e') N.a N.b N.y λO' n' g o' p'=>tV<|yf<|kws_nil<|haveI q':=K.h g;haveI r':=(j'.i l (cn _) x).i K (cn _)<|a8.h _ g;c3 (Db G H.a q' r' l' A (ksk_s2 _ _ _) (λs'=>ksk_l2 _ _ _) (λs'=>ksk_t2 _ _ _) q (λt' f' g' P' u' v' n w' x'=>BK G S H.g (n _ _ p' λy c e=>ay (K.b c) λo P M=>?_) (w' 0 L) u' v' x') (λv t Q' R' t' y' S' T' e U' z' c A' B' X q C'=>AU z' c A' B' X A q.1 C') λy' D' V' q E=>q.2 D' E) (λM M p=>bd.i i'<|bd.i x<|bd.i (a8.h _ g) p) λM M h=>h;rw[show v.b y=n' from e,o']at P;exact aC P ar
theorem aV.H{c:bl}(R:aV B c)(k:O):aV B ⟨c.b,c.c,{c.a with a:=aw c.a.a k au},c.d⟩/\a8 ce c ⟨c.b,c.c,{c.a with a:=aw c.a.a k au},c.d⟩/\∀L,({c.a with a:=aw c.a.a k au}:av).h L->L≠.e k/\c.a.h L:=by
 have q:∀L y,({c.a with a:=aw c.a.a k au}:av).g L=Y y->L≠.e k/\c.a.g L=Y y:=λL y i=>by
  induction L with
  |e j=>
   by_cases d:j=k
   .subst d;exact aC ((aW (λo=>iG o (λL=>Y<|b8.e L) λL=>Y<|b8.b L)<|kH c.a.a j au).symm.trans i) ar
   .exact⟨λz=>d (by cases z;rfl),(aW (λo=>iG o (λL=>Y<|b8.e L) λL=>Y<|b8.b L)<|ji _ _ d).symm.trans i⟩
  |b _ _=>exact⟨λz=>(by cases z),i⟩
  |a _ _ _=>exact⟨λz=>(by cases z),i⟩
  |f _=>exact⟨λz=>(by cases z),i⟩
 have n:∀L,({c.a with a:=aw c.a.a k au}:av).h L->L≠.e k/\c.a.h L:=λL X=>bH X λy r=>lk (q L y r).1 y (q L y r).2;have M:c6 c ⟨c.b,c.c,{c.a with a:=aw c.a.a k au},c.d⟩:=⟨λp p p d=>d,λp p p p p p p d=>d,b4 _,λp=>b4 _,λp=>I,λL p p m=>⟨(n L m).2,I⟩,λp i=>⟨i,I⟩⟩;refine aP ⟨R.d,R.j,R.f,λL x d=>(R.g L x (q L x d).2).f M λp d=>d,λL m=>R.r L (n L m).2,λL s m t d=>R.inj L s (n L m).2 (n s t).2 d,R.s,λj u=>(?_:aw c.a.a k au j=au),R.m⟩ ⟨λv o d p p=>d,λv o d=>⟨o,d⟩,λL m=>aK ⟨L,(n L m).2,I⟩,b4 _,λp=>b4 _,λp=>I,λL d w m=>M.m L d w m,λp i=>⟨i,I⟩⟩ n;delta aw;split
 .rfl
 .exact R.q j u
theorem MJ{M:Model}{A:cR}{E:aZ->bB->Prop}{s:bB}{T:dF}{o:cC}{b:aQ}{K S:il}{u:U q7}{Q:aZ->bB->Prop}(z:hq o=an)(d:Z u+1<30)(m:(mG S<|mH u T).all (·.1.isSome)=an)(n:(K.endLine==S.line)=an)(q:bc M A (dU o T) (λg k=>∀l,bc M A (t8 g b l) (λj H=>bc M A (ry S j.1 j.2 []<|mG S<|mH u T) Q E H) E k) E s):bc M A (dU (cz (dT o b K) [] u S) T) Q E s:=by
 refine(J (vq z)<|aS<|c3 q (λg k r=>aS<|g7 ?_) λp p x=>x:bc M A (do
  let g<-t5 o b T (dU o T)
  nP K.atName
  ub o b K S T g (Z ([]:U cC)+Z u) (hN S<|g6 [] T) (mG S<|mH u T)) Q E s);haveI t:rC (Z ([]:U cC)+Z u) (hN S<|g6 [] T) (mG S<|mH u T)=an:=by delta rC;refine J m (?_:(an&&an&&a0 (0+Z u+_<30))=an);simp only[RZ,g8];split<;>(first|exact(aq [1,1] I:ap 1 0 [.e (.h .a)<|.c 30] (.e (.e (.e .i .a) .i)<|.c 30)) d|exact(aq [1,1] I:ap 1 0 [.e (.h .a)<|.c 30] (.e (.h<|.e .i .a)<|.c 30)) d)
 delta ub;refine J t<|aS<|eh<|c3 (r _) (λj H v=>?_) λp p x=>x;obtain⟨f,w⟩:=j;delta Fj;exact(J n I:(!an||K.endLine==S.line)=an).symm▸(a9 I).symm▸(aS<|bC v)
theorem a8.c{d f:bl}{a:aU}(S:a8 (·=a) d f)(h:∃l,d.a.h l/\d.b l=a):a8 ce d f:=let⟨l,A,i⟩:=h;⟨λb o e p x=>S.p b o e (λz=>x l A<|bx i z.symm) x,S.n,S.g,S.d,S.e,S.q,S.m,S.f⟩
theorem H0(h:Q g2 s):bc (a7 X t) A (t7 (cz f c e p) S x) Q E s:=by induction x using ru with|ref a=>exact aS<|g7<|aS<|Fx<|rz entry_let_go<|bC<|bC h|_=>exact bC h
theorem QK(b':B.e)(w':i0 B.d)(x':i4 B z d b){X:O}{F:a5}{r:aQ}{u:cC}{g:O}{s:aQ}{t:ba}{p E K C M N G v P}(R':a.b.lookup r=Y X)(S':a.d.lookup r=Y .local)(T':(r==("__debug__"))=ax)(U':a6 B a z d F u)(V':hq u=an)(W':mQ B.d 0 s (b g))(c':rQ B.d (b g) s)(d':lg g s=an)(X':g≠0)(w:(E.endLine==G.line)=an):fS B a z d (.l X F g t)<|rt (cz (dT (bR r p) "sort" E) [] [⟨Y "key",dT u s K,C⟩,⟨Y "reverse",gE (gZ t) P M,N⟩] G) v:=by
 revert b b' w' x';revert B a z d X F r u g s t p E K C M N G v P;refine@qt _<|h0 @(letI B:=_;letI a:=_;letI z:=_;letI d:=_;letI X:=_;letI F:=_;letI r:=_;letI u:=_;letI g:=_;letI s:=_;letI t:=_;letI p:=_;letI E:=_;letI K:=_;letI C:=_;letI M:=_;letI N:=_;letI G:=_;letI v:=_;letI P:=_;(ic ?_:he _ _ _ _ _ _ B a z d X F r u g s t p E K C M N G v P));intros;exactλe' j f' S Y' g' aJ' y' Z' H=>by
  haveI aa':nO j=ax:=by delta nO;refine J y'.h ?_;rfl
  refine(J aa'<|J (w4 I)<|aS<|g7 ?_:bc (a7 B.b B.a) e' (do
   nP v
   if nO j then
    printExpr (dU (cz (dT (bR r p) "sort" E) [] [⟨Y "key",dT u s K,C⟩,⟨Y "reverse",gE (gZ t) P M,N⟩] G) j)else if<-rD (cz (dT (bR r p) "sort" E) [] [⟨Y "key",dT u s K,C⟩,⟨Y "reverse",gE (gZ t) P M,N⟩] G) au v.line j then
    do
     evalThenUse (cz (dT (bR r p) "sort" E) [] [⟨Y "key",dT u s K,C⟩,⟨Y "reverse",gE (gZ t) P M,N⟩] G) j λm=>point;
     cG g2 else
    do
     t7 (cz (dT (bR r p) "sort" E) [] [⟨Y "key",dT u s K,C⟩,⟨Y "reverse",gE (gZ t) P M,N⟩] G) v (<-dU (cz (dT (bR r p) "sort" E) [] [⟨Y "key",dT u s K,C⟩,⟨Y "reverse",gE (gZ t) P M,N⟩] G) j)) _ _ S.d);skip;refine aS<|bC ?_;skip;suffices ab':bc (a7 B.b B.a) e' (dU (cz (dT (bR r p) "sort" E) [] [⟨Y "key",dT u s K,C⟩,⟨Y "reverse",gE (gZ t) P M,N⟩] G) j) (λh' L=>fF B a j S Y' g2 L) bP S.d by exact aS<|c3 ab' (λh' L ac'=>H0 ac') λm m H=>H
  refine ay (bF.a H) λz' A' H=>?_;haveI i':bA (aO z d) (.c X) f' (λj' ad'=>j'=z'/\ad'=S.a) S.a:=by refine(?_:bF (c5 f' X) _);exact J A' ⟨I,I⟩
  refine MJ I (by simp) I w<|(C4 R' S' T').e g' y' Z' i' λae' j' h' k' af' ag' B' ah' aK'=>aM ah' λai' aj'=>?_;subst ai';replace H:=aj'.symm▸H;refine ay (bF.a H) λaL' ak' H=>k'.A B' ak' PySem.F.slot_list_sort PySem.F.type_list_sort λW l'=>bb ?_;intro al';subst l';refine callWith_builtin_kwB I I<|evalArgs_kw_nil I<|tV<|vL V'<|U'.e g' af' k' H λD aM' aN' n am' C' an' q=>bb ?_;intro al';obtain⟨rfl,q⟩:=q;induction j' using V.casesOn with
  |e y=>
   refine ay (bF.a q) λo D' q=>?_;haveI E':=q.2.1;haveI q:=q.2.2;refine aM an'.o λao' F'=>?_;subst ao';have G':=B'.i k' (cn _) C';refine hw (n.e G' D') λaO' aP' aQ' a' H' ap' i'=>b6 (i' y I) λaR' aS' aT'=>?_;injection a' with a';subst a';refine Bb b' w' n F' W' d' (λQ=>aA Q X') c'.a c'.b c'.y λL m' n' o' aq'=>tV<|yf<|kws_nil (?_:bc _ e' (e9 (cH "list.sort") ([aN W]++[]) [(gG "key",aN m'),(gG "reverse",jw t)]) _ _ L);haveI I':=n.h n';haveI J':a8 ce D<|D.h L:=a8.h _ n';haveI K':=n'.p _ _ H';refine b6 (I'.H y) λar' L' M'=>?_;have R:D.a.h<|.e y:=ay (mu D') λm as' m=>⟨_,i7 as'⟩;have T:D.b (.e y)=W:=by cases G' with|e _ p'=>exact(p' R).symm
   refine Td EU (aF _ K' I) ET ?body<|ksk_l2 _ _ _;refine(?_:bc _ _ (Builtin.«list.sort» ⟨[aN W],[(gG "key",aN m'),(gG "reverse",jw t)]⟩) _ _ _);rw[ksk_t2];haveI N':B.c.get? W=au:=az T<|n.r _ R;refine DW (c:=⟨D.b,D.c,{D.a with a:=aw D.a.a y au},L⟩) ar' N' (λo w Q=>aM (M' o w) λO' q'=>O'<|n.inj _ _ q' R<|bx Q T.symm:∀o,({D.a with a:=aw D.a.a y au}).h o->D.b o≠W) K' ((ap'.i n (cn _) J').f<|L'.a I'<|cn _) E' q (λA z' h' aU' r' s' C l' at'=>?_) (λae' aV' a' A au' aW' Q av' w t' aw' d' q ax'=>AU av' w t' aw' d' E' q.1 ax') λA ay' az' u' au' r' aA' aB' aC' s' aD' t'=>?_
   .refine BK b' x' g'.h (C _ _ (λr=>?_) aq' λo w Q=>?_) (l' 0 F') r' s' at'
    .rw[r,H']at o';exact aC o' ar
    .refine aM (M' o w) λO' q'=>ay (n.b q') λF P' m=>?_;rw[show D.b o=m' from Q,o']at P';exact aC P' ar
   .refine aF _ I<|en (r'.E (x:=.e u') bk aB' (dr ay' az' aC' s') ((((J'.i L').k λm H=>be H).i aA').c ⟨.e y,R,T⟩) N'<|aK<|aF _ R T) λaE' Q' aX' m=>?_;haveI aF':=am'.D n Q' (λaG' v'=>az (bE v') A') (λaG' v' aH' aI'=>by
     refine az v' ?_;haveI:aH'=aN W:=by cases aI' with|e _ p'=>exact J (p' R)<|J T I
     exact J this<|.e (b7 _) λm=>(J (a9 I) I:W=(if A.a.d=A.a.d then W else _)));exact⟨A.u A.d W<|.e u',f'.set X<|.e A.a.d,.b,aE',aF',(ag'.i<|C'.i Q').b,.b,t'.2 u' aD'⟩
  |_=>exact be q
end
end
set_option backward.match.sparseCases true
section
variable{B:bZ}{b:bT}{z:O->a3 bg}{d:O}{c:O->aU}
mutual
theorem CT{l:U (aQ×aZ)}(a:(b0 (l.map (·.1)))){x:aQ}{v:aZ}(h:l.lookup x=Y v):l.reverse.lookup x=Y v:=by
 haveI D:∀(l:U (aQ×aZ)),(b0 (l.map (·.1)))->∀{x v},l.lookup x=Y v↔(x,v)∈l:=by
  intro l;induction l with
  |nil=>intro _ x v;simp
  |cons p r d=>
   refineλa x v=>aM (dO.mp a) λA i=>?_;obtain⟨n,u⟩:=p;refine J jq ?_;by_cases e:x=n
   .refine J e ?_;simp only[yj,ER,cu,S7,true_and];constructor
    .rintro rfl;exact aK I
    .rintro(h|h)
     .exact h.symm
     .exact aA (fM (f:=(·.1)) h) A
   .haveI:(x==n)=ax:=by simpa using e
    rw[this,cu];simp only[S7,e,false_and,false_or];exact d i
 haveI C:b0 (l.reverse.map (·.1)):=J List.map_reverse<|SF.mpr<|T8 (λh=>f8 h) a;rw[D _ C,List.mem_reverse];exact(D _ a).mp h
theorem DL{d:mD}{n:U aQ}{fn:bg}{a:aU}(z:mN b d n)(q:∀x∈d.scope.names,x.2≠d4)(s:∀x y f,d.closure.lookup x=Y f->d.closure.lookup y=Y f->x=y){c:bl}(R:aV B c){j:j2}{tk:O}{w:U (aQ×aZ)}(P:j.Ns (aX c.d.heap.objs) (λx=>w.reverse.lookup x))(F:∀f o,c.d.heap.get? f=Y o->j.get? f=Y o){args:U V}(t:∀x i,b.b.lookup x=Y i->ek (c.h {c.d with heap:=j,toks:=tk}) (fn.a args) i (w.reverse.lookup x)):cv b (hz d (aX c.d.heap.objs) a) (fn.a args) (c.h {c.d with heap:=j,toks:=tk})/\k3 B b (hz d (aX c.d.heap.objs) a)/\(∀f,gc b (hz d (aX c.d.heap.objs) a) f->c.d.heap.get? f=au):=by
 haveI C:=λx h=>by
  haveI:∀(l:U (aQ×lM)),l.lookup x=Y d4->(x,d4)∈l:=by
   intro l;induction l with
   |nil=>intro h;cases h
   |cons p r u=>
    intro h;obtain⟨G,H⟩:=p;rw[jq]at h;split at h
    .rename_i e;exact az (bE h)<|az (gk e)<|bu ..
    .exact cm _<|u h
  exact q _ (this _ h) I
 refine⟨⟨z.h,z.d.symm,z.f,z.g,λl v e=>?_,⟨_,P,λx i k D=>t x i k⟩,λx i k m=>?_,z.inj,s⟩,⟨oq R aV.k,λx i f A g Q=>?_⟩,λf E=>?_⟩
 .refine ay (R.b v) λo A D=>?_;rw[show c.b l=aX c.d.heap.objs from e]at A;exact aA (d3 A)<|f5 _
 .rw[z.d]at m;refine bb ?_;intro K;exact aE m (λh=>aA h<|C x) λh=>aA h<|z.j x i k
 .rw[z.d]at g;exact aA g<|C x
 .rcases E with rfl|⟨x,i,_,g,_⟩
  .exact aV.k
  .rw[z.d]at g;exact aA g<|C x
theorem CG{o:mD}{c:U aQ}{l:bg}(z:mN b o c){d:bl}{Q:U V}{vals:U aZ}{w:U (aQ×aZ)}(m:(b0 (w.map (·.1))))(E:∀x v,(c.zip vals).lookup x=Y v->w.lookup x=Y v)(P:bm d Q vals)(T:∀x h v,b.b.lookup x=Y h->Z Q<=h->l.c[h-Z Q]?=Y v->∃y,w.lookup x=Y y/\aY d v y)(p:Z Q<=Z c):∀x h,b.b.lookup x=Y h->ek d (l.a Q) h (w.reverse.lookup x):=λx h n v q=>by refine bb ?_;intro C;exact aE (to q) (λX=>aM X λA j=>aE (z.b x h n) (λX=>aM X λr k=>ay (P.g j) λy s t=>⟨y,CT m<|E _ _<|BY z.p k s,t⟩) λX=>aM X λk r=>be ((aq [1,1,1] I:ap 3 0 [.g .a .b,.e .f .a,.g .b .f] .i) p A k)) λX=>aM X λA j=>ay (T x h v n A j) λy u B=>⟨y,CT m u,B⟩
theorem Hu(L:B.e){G:bg}(D:mN b l [M,p2])(F:B.d.lookup n=Y ⟨t,u,o8 l,H⟩)(a':t3 B.d l.code l.qualname=an)(b':l.body=q4 body)(c':l.closure=[])(T:∀x∈l.scope.names,x.2≠d4)(d':G.c=[.a r])(e':∀s v,(∀j o,B.c.get? j=Y o->s.heap.get? j=Y o)->BindsTo s l ⟨[v],[]⟩ [(M,v),(p2,cS r tok)])(f':∀x,b.b.lookup x=Y 1->x=p2)(g':l.scope.names.lookup M=Y .local)(h':l.scope.names.lookup p2=Y .local)(i':hV B b z d G.b body)(W:iX A (d+1))(R:aV B f)(X:bm f m q)(K:Z m=1)(j':dH (aO z d) G.b (jf Q) (G.a m) f.a):f9 (a7 B.b B.a) A (nH (aN n) ⟨q,[]⟩) (nW B f Q) f.d:=by
 obtain⟨v,k'⟩:=Sw.mp (bx X.a.symm K);subst k';have c:M≠p2:=by haveI:=D.p;simp at this;exact this
 refine codeAny_call_def (uY W.b (I:Fl=1000)) (R.d _ _<|L.a _ _ F) I (L.c.keeps R.d) (E9 (λj o N=>R.d _ _<|L.a j o N) a') b' (e' _ _ R.d) T (λx P=>?_) (λl' m' g=>?_) D.c D.e D.h
 .rcases cu.mp P with rfl|P
  .exact g'
  .exact J (b9.mp P) h'
 have i:cj f.d {f.d with heap:=l',toks:=cA f.d+Z [(M,v),(p2,cS r tok)]}:=⟨g,I,I⟩;haveI p:=a8.h ce i;obtain⟨n',o',p'⟩:=DL D T (by refine J c' ?_;intro x q' j C;cases C) R m' g (tk:=cA f.d+2) (CG D (by simp[c]) (λx q' C=>by
  simp only[SN,List.zip_nil_right,jq,List.lookup_nil]at C⊢;split at C
  .exact C
  .cases C) (X.i R (cn _) p) (λx w v' r' y E=>by
  rw[d']at E;haveI:w=1:=by
   rw[K]at y E;refine aE (f6 (w-1) 1) (λC=>(dR [1,1,0,1] [1,0,1] I I:ap 2 0 [.e .a .k,.a (.h .a) .b] (.a .b .k)) C<|cy<|zI y) λC=>?_
   .rw[gX (by simpa using C)]at E;exact be (nomatch E:bW)
  subst this;rw[K]at E;refine az (bE E) ?_;obtain rfl:=f' x r';refine⟨_,J jq ?_,.a r tok⟩;haveI:(x==M)=ax:=by simp;exactλN=>c N.symm
  refine J this ?_;simp) (by simp[K]));refine c3 (i' _ _ (G.a m) _ (jf Q) W.e o' n' (R.h i) j') (λs' w' t'=>?_) λu' u' C=>be C;induction s'<;>exact bd.c (S:=p) p' t'
theorem MI(b:a.all cr=an)(c:Z a<30)(d:(g.endLine==S.line)=an)(h:_root_.PySem.wpAt M A D (t5 o i T<|dU o T) (λj k=>∀l,bc M A (t8 j i l) (λe H=>bc M A (ry S e.1 e.2 (hN S<|g6 a T) []) Q E H) E k) E s):_root_.PySem.wpAt M A D (dU (cz (dT o i g) a [] S) T) Q E s:=by
 refine PySem.wpAt_bind<|ks_wpAt_mono h (λj k z=>TZ<|aS<|g7 ?_) λp p x=>x;haveI m:rC (Z a+Z ([]:U q7)) (hN S<|g6 a T) (mG S<|mH [] T)=an:=by unfold rC;refine J (oD b).2 (?_:(an&&an&&a0 (Z a+0+0<30))=an);simp[c]
 unfold ub;refine J m<|aS<|eh<|c3 (z _) (λe H n=>?_) λp p x=>x;obtain⟨f,q⟩:=e;unfold Fj;exact J (show(!an||g.endLine==S.line)=an by exact J d I)<|J (a9 I)<|aS<|bC n
theorem QT{C:ei}(A:hR C){f:O}{a:a5}{L:U V}{s:V}{Q:V->av->Prop}{N:av}(b:c5 L 0=Y s)(h:bA C (.P f a) L Q N):bA C a L (λv q=>match v with|.g l=>C f (s::l) Q q|_=>bW) N:=gV A a L _ _ N (λv N h=>by have h:v.i λl=>bF (c5 L 0) λs=>C f (s::l) Q N:=h;rw[b]at h;induction v using V.casesOn<;>exact h) h
theorem HA{K:et}(h:clsIn K a=Y g):∃o,K.lookup a=Y o/\o.data=.cls g:=by delta clsIn at h;revert h;generalize K.lookup a=x;intro h;induction x using tQ with|none=>exact aC h ar|some o=>induction o using t1 with|mk c d b v=>induction b using tX<;>first|exact⟨_,I,aW Data.cls<|bE h⟩|exact aC h ar
structure yG(K:et)(X:g3)(q:mD)(f D s r:aU):Prop where
 c:q.closure=[(("__class__":aQ),D)]
 h:q.code=aN s
 a:(q.params.posonlyargs++q.params.args).head?.map (·.arg)=Y "self"
 i:∃w P t x u C,K.lookup s=Y ⟨w,P,fo t,x⟩/\t[2]?=Y (fz u C)/\((X.main.file:aQ)==u)=an
 j:∃G y z,K.lookup D=Y ⟨G,y,tY<|Y<|aN<|cw 0,z⟩
 k:∃v,clsIn K (cw 0)=Y v/\alongIn K "__init__" ((v.mro.dropWhile (·!=aN (cw 0))).drop 1)=Y (Y<|aN r)
 l:mroIn K (cw 0) (aN<|cw 0)=Y an
 m:fA K eO "super"=Y au
 d:q.scope.names.lookup ("super":aQ)=Y gF
 e:q.scope.names.lookup ("__class__":aQ)=Y ez
 g:q.scope.names.lookup ("self":aQ)=Y .local
 n:(X.main.scope.names.lookup ("super":aQ)).isSome=ax
 o:fA K cStatics "thirdparty.any"=Y au
 b:rv K (aN r)=Y (bq "function")
 p:fnIn K r=an
set_option tactic.hygienic true in theorem Hw(N:B.e)(H':i4 B z d c){k:mD}{u:U aQ}{t:bg}{body w:U lO}{X:a5}{W:U cC}{q:bo}{H:O}{n m' g':aU}{I':aZ}{J':a3 aU}{K':cQ (a3 aZ)}{a' b' y h c'}(l:mN b k u)(v':B.d.lookup n=Y ⟨I',J',o8 k,K'⟩)(L':t3 B.d k.code k.qualname=an)(M':k.body=q4 (rt (cz (dT (cz (bR "super" a') [] [] b') "__init__" y) W [] h) c'::w))(w':∀x∈k.scope.names,x.2≠d4)(ax':k.defaults=dL)(N':t.c=[])(O':∀x∈u,k.scope.names.lookup x=Y .local)(P':t.b=.d (.f<|.P H X) q)(G:yG B.d B.b k n m' g' (c H))(Q':b.b.lookup ("self":aQ)=Y 0)(R':b.d.lookup ("self":aQ)=Y .local)(S':hU B b z d X W)(n':W.all cr=an)(T':Z W<30)(U':(y.endLine==h.line)=an)(V':hV B b z d q w)(W':∀s:U aZ,Z u=Z s->nL k ⟨s,[]⟩=cG (u.zip s)){A:cR}{j:bl}{Q:V->av->Prop}{D:U V}{s:U aZ}(X':iX A (d+1))(R:aV B j)(Y':bm j D s)(x':Z D=Z u)(Z':D[0]?=Y (.b 0))(aa':dH (aO z d) t.b (jf Q) (t.a D) j.a):f9 (a7 B.b B.a) A (nH (aN n) ⟨s,[]⟩) (nW B j Q) j.d:=by
 revert N H' body W I' J' K' l v' L' M' w' ax' N' O' P' G Q' R' S' n' T' U' V' W' D;revert B b z d c k u t w X q H n m' g' a' b' y h c' A j Q s;refine@fk _ ?_;refine h0 @(letI B:=_;letI b:=_;letI z:=_;letI d:=_;letI c:=_;letI k:=_;letI u:=_;letI t:=_;letI w:=_;letI X:=_;letI q:=_;letI H:=_;letI n:=_;letI m':=_;letI g':=_;letI a':=_;letI b':=_;letI y:=_;letI h:=_;letI c':=_;letI A:=_;letI j:=_;letI Q:=_;letI s:=_;(ic ?_:he _ _ B b z d c k u t w X q H n m' g' a' b' y h c' A j Q s));set_option tactic.hygienic false in intros
 haveI ab':=Y'.a;haveI y':Z u=Z s:=by exact zy x' ab'
 haveI ac':=SC (by exact zz x' ab');refine ks_codeAny_call_defAt (fd:=k) (binds:=u.zip s) (by haveI:=X'.b;haveI K:Fl=1000:=I;exact uY this K) (R.d _ _<|N.a _ _ v') I (N.c.keeps R.d) (E9 (λh' i' K=>R.d _ _<|N.a h' i' K) L') M' (BindsTo.of_eq<|W' s y') w' (λx ay'=>?_) (λr az' ad'=>?_) l.c l.e l.h
 .haveI z':x.1∈u:=by exact az ac'<|fM ay'
  exact O' _ z'
 have o':cj j.d {j.d with heap:=r,toks:=cA j.d+Z (u.zip s)}:=⟨ad',I,I⟩;haveI aA':=a8.h ce o';haveI d':=R.h o';obtain⟨e',aB',aC'⟩:=DL (a:=n) (fn:=t) (args:=D) l w' (by
  refine J G.c ?_;intro x bp' h' T m;rw[jq]at T m;split at T
  .rename_i ae';split at m
   .rename_i aD';exact J (gk ae')<|J (gk aD') I
   .cases m
  .refine bb ?_;intro af';cases T) R az' ad' (tk:=cA j.d+Z (u.zip s)) (CG (vals:=s) l (by exact J ac' l.p) (λx v j'=>j') (Y'.i R (cn _) aA') (λx bq' br' bs' T m=>by rw[N']at m;simp at m) (by exact u0 x'));rw[P']at aa';haveI A':da (A.deeper<|hz k (aX j.d.heap.objs) n) d:=X'.e;have ag':c5 (t.a D) 0=Y (.b 0):=by
  unfold c5 bg.a;haveI:(D++t.c++SH (t.e-Z D-Z t.c) V.d)[0]?=Y (.b 0):=by
   haveI ah':0<Z D:=by induction D with|nil=>simp at Z'|cons _ _=>simp
   exact J (lG (by simp;exact(aq [1,1] I:ap 2 0 [.e .i .a] (.e .i<|.e .a .b)) ah'))<|J (lG ah') Z'
  exact J this I
 refine bb ?_;intro af';refine ay e'.e λbt' z' aE'=>?_;refine ay (aE' _ _ Q' R' _ ag') λbu' aF' ai'=>?_;haveI aG':=ai'.o.1;haveI aj':=ai'.o.2;subst aG';haveI k':B.d.In r:=d'.t N;refine ay G.k λak' al' aH'=>?_;obtain⟨p',B',C'⟩:∃p',r.get? (cw 0)=Y p'/\p'.data=.cls ak':=by exact ay (HA al') λi' n h'=>⟨i',k' _ _ n,h'⟩
 refine dd (d'.y aj') λbv' bw' bx' by' am'=>?_;refine RK G.i λbz' bA' f' bB' bC' bD' aI' aJ' aK'=>?_;refine RI G.j λbE' bF' bG' aL'=>?_;refine ay (tR.mp G.a) λbH' aM' aN'=>?_;have aO':j.c 0≠cw 0:=λK=>by
  haveI T:=am'.at_;haveI m:r.get? (j.c 0)=Y p':=by exact J K B'
  haveI an':r.get? (j.c 0)=Y ⟨aN<|cw 0,Y<|j.b<|.f 0,nI,#[]⟩:=T;rw[m]at an';obtain rfl:=bE an';cases C'
 haveI aP':rD (cz (dT (cz (bR "super" a') [] [] b') "__init__" y) W [] h) au c'.line (hz k (aX j.d.heap.objs) n)=cG ax:=I;haveI aQ':nO (hz k (aX j.d.heap.objs) n)=ax:=by unfold nO;refine J e'.h ?_;rfl
 refine ks_wpAt_execs_cons<|ks_wpAt_Expr_any (MI n' T' U'<|ks_wpAt_super_base (cc:=g') G.d G.e as I (k' _ _ v') I aM' G.h (k' _ _ aI') I aJ' aK' G.n ?_) aQ' aP';refine ks_loadName_global e'.h G.d<|Tk (env:=hz k (aX j.d.heap.objs) n) (by refine(?_:Heap.Ns _ k.globals _);exact J l.f<|N.r.keeps d'.d) (mg_none_of N.a N.r G.m) (by refine(?_:Heap.Ns _ k.builtins _);exact J l.g<|N.b.keeps d'.d) ((N.d _ (by decide+kernel)).trans (by kernel_rfl)) ⟨I,?_⟩;refine wpAny_loadName_free e'.h G.e (by refine(?_:k.closure.lookup _=_);refine J G.c ?_;rfl) ⟨_,k' _ _ aL',I⟩ ?_;refine J aN' ?_;refine Fv e'.h G.g z' aF' ?_;refine ks_wpAny_isType_cls B' C' ⟨I,?_⟩;refine ks_wpAny_call_super (ox:=⟨aN<|cw 0,Y<|j.b<|.f 0,nI,#[]⟩) B' C' am'.at_ I (λj K=>by cases K) (looks_mroIn k' G.l) λE K aR' bI'=>?_;haveI q':cj {j.d with heap:=r,toks:=cA j.d+Z (u.zip s)} {j.d with heap:=E,toks:=cA j.d+Z (u.zip s)}:=⟨aR',I,I⟩;haveI ao':=d'.h q';haveI r':B.d.In E:=ao'.t N;haveI bJ':aX r.objs=aX r.objs:=I;obtain⟨bK',aS',aT'⟩:∃s',E.get? (c H)=Y s'/\s'.cls=bq "function":=by have t':(B.d.lookup<|c H).map (·.cls)=Y (bq "function"):=G.b;cases o:B.d.lookup (c H)with|none=>rw[o]at t';exact aC t' ar|some s'=>rw[o]at t';exact⟨s',r' _ _ o,bE t'⟩
 refine ks_wpAny_getMethod_super (C:=cw 0) K (looks_opaque r' G.o) (l₀:=ak'.mro) ((looks_clsIn r' al').andThen .now) I r' aH' aS' aT' aO' as ?_;haveI D':cj {j.d with heap:=E,toks:=cA j.d+Z (u.zip s)} {j.d with heap:=co E {cls:=bq "method",data:=fo #[aN (c H),aN (j.c 0)]},toks:=cA j.d+Z (u.zip s)+1}:=⟨λh' i' K=>dJ _ K,I,I⟩;haveI ap':=R.h<|o'.i<|q'.i D';haveI aU':=a8.h ce<|o'.i<|q'.i D';haveI aq':cv b (hz k (aX j.d.heap.objs) n) (t.a D)<|j.h {j.d with heap:=co E {cls:=bq "method",data:=fo #[aN (c H),aN (j.c 0)]},toks:=cA j.d+Z (u.zip s)+1}:=e'.i d'<|a8.h ce<|q'.i D';haveI aV':(co E {cls:=bq "method",data:=fo #[aN (c H),aN (j.c 0)]}).get? (aX E.objs)=Y (Fb (aN<|c H)<|aN<|j.c 0):=d2 _ I;haveI aW':∀F,j.a.h F->j.b F≠aX E.objs:=λF y' K=>by refine bb ?_;intro af';refine ay (ao'.b y') λi' T L=>?_;exact aA (d3 T) (by exact J K<|f5 _)
 haveI aX':bA (aO z d) X (t.a D) (λv aY'=>match v with|.g F=>aO z d H (.b 0::F) (λL aZ'=>dH (aO z d) q (jf Q) (t.a D) aZ') aY'|_=>bW) j.a:=by haveI T:=aa';exact QT (jz z d) ag' T
 refine callWith_of (P:=MethP B.d (aX E.objs) (c H)<|aN<|j.c 0) (by refine J (oD n').1 ?_;rfl) (keeps_M G.p) ?_;haveI E':bc (a7 B.b B.a) (A.deeper<|hz k (aX j.d.heap.objs) n) (spliced<|hN h<|g6 W<|hz k (aX j.d.heap.objs) n) (λf' p=>MethP B.d (aX E.objs) (c H) (aN<|j.c 0) (bz p)/\bc (a7 B.b B.a) (A.deeper<|hz k (aX j.d.heap.objs) n) (e9 (aN (aX E.objs))<|[]++f') (λv l'=>∃M,M.d=l'/\aV B M/\cv b (hz k (aX j.d.heap.objs) n) (t.a D) M/\a8 ce j M/\dH (aO z d) q (jf Q) (t.a D) M.a) bP p) bP {j.d with heap:=co E {cls:=bq "method",data:=fo #[aN (c H),aN (j.c 0)]},toks:=cA j.d+Z (u.zip s)+1}:=by
  refine c3 (S' _ _ (t.a D) (j.h {j.d with heap:=co E {cls:=bq "method",data:=fo #[aN (c H),aN (j.c 0)]},toks:=cA j.d+Z (u.zip s)+1}) _ h A' aq' ap' aX') (λf' p F'=>F'.casesOn λar' F G' u' ba' bb'=>?_) λL L j'=>j';haveI as':=u'.p _ _ aV' (λo=>o) aW';refine⟨⟨as',G'.t N⟩,?_⟩;rw[xF];haveI at':=u'.f 0 aj';refine rE<|method_call as' ?_;haveI bc':aY ar' (.b 0)<|aN<|j.c 0:=by exact az at'.2<|.b 0 at'.1
  refine nN (H' H (A.deeper<|hz k (aX j.d.heap.objs) n) ar' _ (.b 0::F) (aN (j.c 0)::f') A'.f G' (.b bc' ba') bb') λbd' p o=>?_;rcases bd' with K|(v|_|_|_)<;>first|exact o|exact o.elim|skip
  refine bd.casesOn o λbe' bL' bf' au' L bg'=>?_;exact⟨be',I,bf',(aq'.i ap' u').i G' au',aU'.i<|u'.i au',bg'⟩
 haveI av':∀(aw':aZ->bB->Prop)(v:aZ)(l':bB),(∃M,M.d=l'/\aV B M/\cv b (hz k (aX j.d.heap.objs) n) (t.a D) M/\a8 ce j M/\dH (aO z d) q (jf Q) (t.a D) M.a)->_root_.PySem.wpAt (a7 B.b B.a) (A.deeper<|hz k (aX j.d.heap.objs) n) (.func (rt (cz (dT (cz (bR "super" a') [] [] b') "__init__" y) W [] h) c'::w)<|hz k (aX j.d.heap.objs) n) (execs w<|hz k (aX j.d.heap.objs) n) (λbh' p=>nW B j Q (fJ<|gp (match bh' with|gp v=>v|_=>dL)) p) aw' l':=λaw' v l' bi'=>nz bi' λM bj' bk' bl' bm' bn'=>by subst bj';refine TZ<|c3 (V' _ _ (t.a D) M (jf Q) A' aB' bl' bk' bn') (λbo' p F'=>?_) λL L j'=>be j';induction bo' using E2<;>exact bd.c (S:=bm') aC' F'
 induction W with|nil=>unfold evalArgs;refine aS<|c3 E' (λf' p E=>?_) λL L x=>be x;refine aS<|bC ?_;refine eh ?_;exact aS<|bC<|aS<|bC<|bC ⟨E.1,c3 E.2 (av' _) λL L x=>be x⟩|cons ae' bM'=>refine aM (eS.mp n') λT m=>?_;rw[f1 T]at E'⊢;exact Tj<|c3 E' (λf' p E=>⟨E.1,c3 E.2 (av' _) λL L x=>be x⟩) λL L x=>be x
end
end
set_option backward.match.sparseCases false
mutual
def vS(Γ:bT)(x A:aQ):ba:=x==A&&a0 (Γ.d.lookup x=Y gF)
def sB:U<|aQ×O:=[("UNKNOWN",0),("TRUE",1),("FALSE",2),("NO_CLAUSE",3),("FIRST_STEP",4),("SHRINK",5),("RULES",6)]
def sl:U<|aQ×aZ:=[("len",cH "len"),("abs",cH "abs"),("max",cH "max"),("min",cH "min"),("tuple",bq "tuple"),("list",bq "list"),("isinstance",cH "isinstance"),("any",cH "any"),("all",cH "all"),("range",bq "range"),("sorted",cH "sorted"),("set",bq "set")]
def Hj:xY->Operator|cY=>.Add|dK=>.Sub|lN=>.Mult|g4=>.FloorDiv|hL=>.Mod
def HF(Γ:bT)(t:j4):U<|aQ×lM:=t.names.map λ(n,k)=>if(k==ez&&Γ.d.lookup n==Y d4)then(n,d4)else(n,k)
def gO(Γ:bT)(t:j4)(H:U aQ)(a:U O):bT:=⟨HF Γ t,H.zip a++t.names.filterMap λ(n,k)=>if k==ez then(Γ.b.lookup n).map (n,·)else au⟩
def ob(Γ:bT)(t:j4)(H:U aQ)(a:U O):ba:=a0 (t.kind=hy)&&(t.names.all λx=>(!(x.2==.local)||a0 (t.names.lookup x.1=Y .local))&&!(x.2==d4)&&(!(x.2==ez)||((Γ.b.lookup x.1).isSome&&(a0 (Γ.d.lookup x.1=Y d4)||a0 (Γ.d.lookup x.1=Y ez)))))&&((gO Γ t H a).b.all λ(z,j)=>(a0 ((gO Γ t H a).d.lookup z=Y .local)&&a.contains j)||(!a.contains j&&a0 (Γ.b.lookup z=Y j)&&t.names.contains (z,ez)&&(a0 (Γ.d.lookup z=Y d4)||a0 (Γ.d.lookup z=Y ez))&&!a0 ((gO Γ t H a).d.lookup z=Y .local)))&&a0 (b0 ((gO Γ t H a).b.map (·.2)))
theorem nl{α:Type}{l:U (aQ×α)}{a:α}(h:l.lookup x=Y a):(x,a)∈l:=by
 induction l with
 |nil=>cases h
 |cons p r d=>
  obtain⟨n,b⟩:=p;rw[jq]at h;split at h
  .rename_i e;exact az (bE h)<|az (gk e)<|bu ..
  .exact cm _<|d h
theorem C6{α:Type}{l:U (aQ×α)}(c:(b0 (l.map (·.2)))){x y:aQ}{a:α}(h:l.lookup x=Y a)(g:l.lookup y=Y a):x=y:=by
 haveI A:=nl h;haveI i:=nl g;induction l with
 |nil=>cases A
 |cons p r d=>
  refine aM (dO.mp c) λe w=>?_;refine aE (cu.mp A) (λb=>?_) λb=>?_<;>rcases cu.mp i with n|n
  .rw[<-n]at b;exact(tS b).1
  .exact aA ((az b (fM (f:=(·.2)) n))) e
  .exact aA ((az n (fM (f:=(·.2)) b))) e
  .haveI:∀{l:U (aQ×α)},(x,a)∈l->(y,a)∈l->(b0 (l.map (·.2)))->x=y:=by
    intro l;induction l with
    |nil=>intro h;cases h
    |cons p r d=>
     refineλA i c=>aM (dO.mp c) λe w=>?_;refine aE (cu.mp A) (λb=>?_) λb=>?_<;>rcases cu.mp i with n|n
     .rw[<-n]at b;exact(tS b).1
     .exact aA ((az b (fM (f:=(·.2)) n))) e
     .exact aA ((az n (fM (f:=(·.2)) b))) e
     .exact d b n w
   exact this b n w
theorem sp(h:ob Γ t H b=an):nT Γ t (gO Γ t H b) b:=by
 revert Γ t H b;refine@fk _<|jJ @(letI Γ:=_;letI t:=_;letI H:=_;letI b:=_;(jT ?_:is _ _ Γ t H b));intros;delta ob at h;simp only[iK]at h;refine aM h λs c=>?_;obtain⟨⟨A,f⟩,Q⟩:=s;haveI a:=λx M=>gl.mp f x M;refine⟨fa A,I,λx M C=>?_,λx M=>?_,λx M C=>?_,λz j E=>?_,λx y i M g=>C6 (fa c) M g⟩
 .haveI:=a x M;rw[C]at this;simpa using this
 .haveI:=a x M;skip;intro e;rw[e]at this;simp at this
 .haveI:=a x M;rw[C]at this;simp only[iK,oU,kM,g8]at this;refine aE this.2 (λh=>?_) λX=>aM X λh k=>bH (S5.mp h) λj l=>aF j l k
  .simp at h
 .haveI:=gl.mp Q (z,j)<|nl E;simp only[iK,oU,kM,g8,qP,yk]at this;rcases this with h|h
  .exact aK h
  .refine a1<|fg (λT=>?_) h.1.1.1.2 h.1.1.2 h.1.2 h.2;haveI d:=h.1.1.1.1;rw[qP.mpr T]at d;exact aC d ar
structure hf where
 g:U<|aQ×O
 b:U<|aQ×O×O
 j:U<|O×aQ×O
 h:U<|aQ×O
structure yt(B:bZ)(T:hf)(r:O->aU):Prop where
 c:B.e
 i:i0 B.d
 q:∀x n,(x,n)∈sB->∀(Γ:bT)R d S,Γ.d.lookup x=Y gF->a6 B Γ R d (.q n) (bR x S)
 k:∀x v,(x,v)∈sl->∀(Γ:bT),Γ.d.lookup x=Y gF->dP B Γ x v
 g:∀x f,(x,f)∈T.g->fA B.d eO x=Y (Y<|aN<|r f)/\(x==("__debug__":aQ))=ax/\mF B.d (aN<|r f)=an
 b:∀x o f,(x,o,f)∈T.b->fA B.d eO x=Y (Y<|aN<|cw o)/\(x==("__debug__":aQ))=ax/\ut B.d o (r f)
 j:∀o x f,(o,x,f)∈T.j->mQ B.d o x (r f)/\lg f x=an
 h:∀x f,(x,f)∈T.h->rQ B.d (r f) x/\f≠0
 l:∀(Γ:bT)R d a e p E S s,dP B Γ "len" (cH "len")->dP B Γ "set" (bq "set")->a6 B Γ R d a e->cr e=an->a6 B Γ R d (.ad a) (cz (bR "len" p) [cz (bR "set" E) [e] [] s] [] S)
 m:∀(Γ:bT)R d a e p E S s,dP B Γ "sorted" (cH "sorted")->dP B Γ "set" (bq "set")->a6 B Γ R d a e->cr e=an->a6 B Γ R d (.ae a) (cz (bR "sorted" p) [cz (bR "set" E) [e] [] s] [] S)
def sK(Γ:bT)(x:aQ)(i:O):ba:=a0 (Γ.b.lookup x=Y i)&&(a0 (Γ.d.lookup x=Y .local)||a0 (Γ.d.lookup x=Y d4))&&!(x==("__debug__":aQ))
def wb(Γ:bT)(x:aQ)(i:O):ba:=a0 (Γ.b.lookup x=Y i)&&a0 (Γ.d.lookup x=Y .local)
theorem nd(h:sK Γ x i=an):Γ.b.lookup x=Y i/\(Γ.d.lookup x=Y .local\/Γ.d.lookup x=Y d4)/\(x==("__debug__"))=ax:=by unfold sK at h;simp only[iK,oU,g8,kM]at h;exact⟨h.1.1,h.1.2,h.2⟩
theorem BX(h:wb Γ x i=an):Γ.b.lookup x=Y i/\Γ.d.lookup x=Y .local:=by unfold wb at h;simp only[iK,g8]at h;exact h
theorem Bd(h:vS Γ x n=an):n=x/\Γ.d.lookup n=Y gF:=by unfold vS at h;exact aM (eS.mp h) λA i=>az (gk A) ⟨I,fa i⟩
theorem ki{f:Type}[BEq f][Ey f]{l:U f}{a:f}(h:l.contains a=an):a∈l:=qP.mp h
theorem fw(h:(!g)=an):g=ax:=by induction g<;>first|rfl|cases h
theorem MV{x y:aQ}(h:(!(x==y))=an):x≠y:=λe=>by subst e;simp at h
abbrev ca(p:Prop):=a3<|PLift p
end
section
variable{p q:Prop}
mutual
def bp(h:p):ca p:=Y ⟨h⟩
def aI{f:Type}{P:f->Prop}(a:f):ca<|P a:=au
def bn(m:ca p)(k:p->ca q):ca q:=xO au (λh=>k h.down) m
def hF(m k:ca p):ca p:=xO k Y m
def b5(b:ba)(k:b=an->ca q):ca q:=Ek (motive:=λb=>(b=an->ca q)->ca q) (λp=>au) (λk=>k I) b k
def fU(c:Prop)[jW c](k:c->ca q):ca q:=dite c k λp=>au
theorem qp{m:ca p}(h:m.isSome=an):p:=match m,h with|Y g,_=>g.down
end
end
mutual
@[elab_as_elim]def dq{f:Type}[BEq f][Ey f]{P:f->Type}(a:f)(d:∀a,P a)(b:f)(k:P b):P a:=Ek (motive:=λx=>(x=an->P a)->P a) (λp=>d a) (λk=>k I) (a==b) λh=>(gk h).symm▸k
end
section
variable{f:Type}{P:U f->Type}(l:U f)(d:∀l,P l)
mutual
@[elab_as_elim]def dV(k:P []):P l:=xH k (λp p p=>d _) l
@[elab_as_elim]def hi(k:∀x r,P (x::r)):P l:=xH (d _) (λx r p=>k x r) l
@[elab_as_elim]def ef(k:∀x,P [x]):P l:=hi l d λx r=>dV r (λp=>d _)<|k x
@[elab_as_elim]def iv(k:∀x y,P [x,y]):P l:=hi l d λx r=>ef r (λp=>d _)<|k x
@[elab_as_elim]def Am(k:∀x y z,P [x,y,z]):P l:=hi l d λx r=>iv r (λp=>d _)<|k x
end
end
section
variable{f:Type}{P:a3 f->Type}(l:a3 f)(d:∀l,P l)
mutual
@[elab_as_elim]def n7(k:P au):P l:=xO k (λp=>d _) l
@[elab_as_elim]def gv(k:∀x,P (Y x)):P l:=xO (d _) k l
end
end
section
variable{P:cC->Type}(e:cC)(d:∀e,P e)
mutual
@[elab_as_elim]def fe(k:∀x p,P (bR x p)):P e:=by induction e using es with|Name x p=>exact k x p|_=>exact d _
@[elab_as_elim]def la(k:∀c n p,P (gE c n p)):P e:=by induction e using es with|Constant c n p=>exact k c n p|_=>exact d _
@[elab_as_elim]def Ao(k:∀l p,P (qZ l p)):P e:=by induction e using es with|List l p=>exact k l p|_=>exact d _
@[elab_as_elim]def pR(k:∀l n p,P (e7 l n p)):P e:=by induction e using es with|Tuple l n p=>exact k l n p|_=>exact d _
@[elab_as_elim]def mX(k:∀x n p,P (dT x n p)):P e:=by induction e using es with|Attribute x n p=>exact k x n p|_=>exact d _
@[elab_as_elim]def pQ(k:∀x y p,P (pb x y p)):P e:=by induction e using es with|Subscript x y p=>exact k x y p|_=>exact d _
@[elab_as_elim]def vm(k:∀x y z p,P (q0 x y z p)):P e:=by induction e using es with|Slice x y z p=>exact k x y z p|_=>exact d _
@[elab_as_elim]def GS(k:∀x o y p,P (.BinOp x o y p)):P e:=by induction e using es with|BinOp x o y p=>exact k x o y p|_=>exact d _
@[elab_as_elim]def vn(k:∀o y p,P (q2 o y p)):P e:=by induction e using es with|UnaryOp o y p=>exact k o y p|_=>exact d _
@[elab_as_elim]def mZ(k:∀x o y p,P (hK x o y p)):P e:=by induction e using es with|Compare x o y p=>exact k x o y p|_=>exact d _
@[elab_as_elim]def si(k:∀o y p,P (g1 o y p)):P e:=by induction e using es with|BoolOp o y p=>exact k o y p|_=>exact d _
@[elab_as_elim]def GT(k:∀x y z p,P (xW x y z p)):P e:=by induction e using es with|IfExp x y z p=>exact k x y z p|_=>exact d _
@[elab_as_elim]def An(k:∀x y p,P (.Dict x y p)):P e:=by induction e using es with|Dict x y p=>exact k x y p|_=>exact d _
@[elab_as_elim]def mY(k:∀f a s p,P (cz f a s p)):P e:=by induction e using es with|Call f a s p=>exact k f a s p|_=>exact d _
@[elab_as_elim]def pP(k:∀x g s p,P (fq x g s p)):P e:=by induction e using es with|ListComp x g s p=>exact k x g s p|_=>exact d _
end
end
mutual
@[elab_as_elim]def T1{P:Const->Type}(c:Const)(d:∀e,P e)(k:∀b,P (gZ b)):P c:=by induction c using Up with|bool b=>exact k b|_=>exact d _
@[elab_as_elim]def pN{P:tW->Type}(c:tW)(d:∀e,P e)(k:∀t i l,P ⟨t,i,l,0⟩):P c:=match c with|⟨t,i,l,a⟩=>dq a (λp=>d _) 0<|k t i l
@[elab_as_elim]def pO{P:q7->Type}(c:q7)(d:∀e,P e)(s:aQ)(k:∀v p,P ⟨Y s,v,p⟩):P c:=match c with|⟨a,v,p⟩=>gv a (λb=>d _) λa=>dq a (λb=>d _) s<|k v p
end
section
variable{P:a5->Type}(e:a5)(d:∀e,P e)
mutual
@[elab_as_elim]def wi(i:am)(k:P (.a i)):P e:=by induction e using a5.casesOn with|s v=>exact(by induction v using V.casesOn with|a j=>exact dq (P:=λj=>P<|.s<|.a j) j (λp=>d _) i k|_=>exact d _)|_=>exact d _
@[elab_as_elim]def wh(k:∀b,P (.h b)):P e:=by induction e using a5.casesOn with|s v=>exact(by induction v using V.casesOn with|h j=>exact k j|_=>exact d _)|_=>exact d _
@[elab_as_elim]def Lh(k:∀b,P (.c b)):P e:=by induction e using a5.casesOn with|c j=>exact k j|_=>exact d _
@[elab_as_elim]def Lj(k:P .z):P e:=by induction e using a5.casesOn with|s v=>exact(by induction v using V.casesOn with|z=>exact k|_=>exact d _)|_=>exact d _
@[elab_as_elim]def Li(k:P .d):P e:=by induction e using a5.casesOn with|d=>exact k|_=>exact d _
@[elab_as_elim]def B6(k:∀a b,P (.b a b)):P e:=by induction e using a5.casesOn with|b a b=>exact k a b|_=>exact d _
@[elab_as_elim]def Ll(k:∀a,P (.g a)):P e:=by induction e using a5.casesOn with|g a=>exact k a|_=>exact d _
end
end
section
variable{P:fT->Type}(e:fT)(d:∀e,P e)
mutual
@[elab_as_elim]def DS(k:P .d):P e:=by induction e using fT.casesOn with|d=>exact k|_=>exact d _
@[elab_as_elim]def DR(k:∀a b,P (.b a b)):P e:=by induction e using fT.casesOn with|b a b=>exact k a b|_=>exact d _
@[elab_as_elim]def w7(k:∀a,P (.a a)):P e:=by induction e using fT.casesOn with|a a=>exact k a|_=>exact d _
end
end
mutual
open Classical
inductive rN(B:bZ)(Γ:bT)(R:O->a3 bg)(d:O)(c:a5):cC->Prop|mk{t F b M m a S e i w}(A:nT Γ a w e)(f:a6 B Γ R d i F)(Q:iA F=ax)(g:pr B w R d c i t F b M m a S e):rN B Γ R d c<|fq b (⟨t,F,M,0⟩::m) a S
theorem rN.g(h:rN B Γ R i j k):a6 B Γ R i j k:=by induction h with|mk A a Q b=>exact ON A a Q b
structure hg(T:hf)where
 a:bZ
 b:O->a3 bg
 n:O
 g:O->aU
 c:yt a T g
 d:i4 a b n g
end
section
variable(T:hf)
mutual
def kc(Γ:bT)(a:a5)(e:cC):Prop:=∀w:hg T,a6 w.a Γ w.b w.n a e
def uH(Γ:bT)(a:a5)(e:cC):Prop:=∀w:hg T,eY w.a Γ w.b w.n a e
def yP(Γ:bT)(a:a5)(e:U cC):Prop:=∀w:hg T,hU w.a Γ w.b w.n a e
def yN(Γ:bT)(a:a5)(e:cC):Prop:=∀w:hg T,rN w.a Γ w.b w.n a e
def yM(Γ:bT)(n:aQ)(v:aZ):Prop:=∀w:hg T,dP w.a Γ n v
structure ha(a:a5)where
 c:∀Γ e,ca (kc T Γ a e)
 b:∀Γ e,ca (uH T Γ a e)
 d:∀Γ e,ca (yP T Γ a e)
 f:∀Γ e,ca (yN T Γ a e)
end
end
section
variable{T:hf}{a b c:a5}
mutual
def CH(E:∀Γ e,ca (kc T Γ a e))(Γ:bT)(e:cC):ca<|uH T Γ a e:=bn (E Γ e) λh=>b5 (Cn e) λg=>bp λw=>Rh (h w) g
def dX(E:∀Γ e,ca (kc T Γ a e)):ha T a:=⟨E,CH E,λp p=>au,λp p=>au⟩
def m0(E:∀Γ e,ca (kc T Γ a e))(t:∀Γ e,ca (uH T Γ a e)):ha T a:=⟨E,t,λp p=>au,λp p=>au⟩
def sq(C:∀Γ e,ca (yN T Γ a e)):ha T a:=⟨λΓ e=>bn (C Γ e) λh=>bp λw=>(h w).g,CH λΓ e=>bn (C Γ e) λh=>bp λw=>(h w).g,λp p=>au,C⟩
def AC(L:∀Γ e,ca (yP T Γ a e)):ha T a:=⟨λp p=>au,λp p=>au,L,λp p=>au⟩
@[elab_as_elim]def Bc{P:aQ->Type}(x:aQ)(d:∀x,P x)(n:aQ)(v:aZ)(Γ:bT)(k:yM T Γ n v->P n):P x:=Ek (motive:=λb=>(b=an->P x)->P x) (λp=>d x) (λk=>k I) (vS Γ x n&&sl.contains (n,v)) λh=>(Bd (eS.mp h).1).1▸k λw=>w.c.k _ _ (ki (eS.mp h).2) _ (Bd (eS.mp h).1).2
@[elab_as_elim]def l4{P:cC->Type}(e:cC)(d:∀e,P e)(n:aQ)(v:aZ)(Γ:bT)(k:∀q l s p,yM T Γ n v->P (cz (bR n q) l s p)):P e:=mY e d λf l s p=>fe f (λa=>d _) λx q=>Bc x (λa=>d _) n v Γ λh=>k q l s p h
def hh{p:Prop}(P:ha T a)(Γ:bT)(e:cC)(k:kc T Γ a e->cr e=an->ca p):ca p:=bn (P.c Γ e) λh=>b5 (cr e) λg=>k h g
def m5(n:aQ)(v:aZ)(P:ha T b)(A:∀(w:hg T){Γ:bT}{y p q},dP w.a Γ n v->a6 w.a Γ w.b w.n b y->cr y=an->a6 w.a Γ w.b w.n a (cz (bR n p) [y] [] q)):ha T a:=dX λΓ e=>l4 e aI n v Γ λq l s p c=>ef l aI λy=>dV s aI<|hh P Γ y λh g=>bp λw=>A w (c w) (h w) g
def A3(n:aQ)(v:aZ)(P:ha T b)(t:ha T c)(A:∀(w:hg T){Γ:bT}{y z p q},dP w.a Γ n v->a6 w.a Γ w.b w.n b y->a6 w.a Γ w.b w.n c z->cr y=an->cr z=an->a6 w.a Γ w.b w.n a (cz (bR n p) [y,z] [] q)):ha T a:=dX λΓ e=>l4 e aI n v Γ λq l s p d=>iv l aI λy z=>dV s aI<|hh P Γ y λh g=>hh t Γ z λf u=>bp λw=>A w (d w) (h w) (f w) g u
def A4(n:aQ)(v:aZ)(P:ha T b)(A:∀(w:hg T){Γ:bT}{y p E q R},dP w.a Γ n v->dP w.a Γ "set" (bq "set")->a6 w.a Γ w.b w.n b y->cr y=an->a6 w.a Γ w.b w.n a (cz (bR n p) [cz (bR "set" E) [y] [] R] [] q)):ha T a:=dX λΓ e=>l4 e aI n v Γ λq l s p c=>ef l aI λy=>dV s aI<|l4 y aI "set" (bq "set") Γ λR x X E d=>ef x aI λy=>dV X aI<|hh P Γ y λh g=>bp λw=>A w (c w) (d w) (h w) g
@[elab_as_elim]def s2{P:cC->Type}(e:cC)(d:∀e,P e)(k:∀x m l b p,P (cz (dT x m b) l [] p)):P e:=mY e d λf l s p=>dV s (λa=>d _)<|mX f (λa=>d _) λx m b=>k x m l b p
def s3{p:Prop}(P:ha T a)(Γ:bT)(x:cC)(b S:il)(k:kc T Γ a x->hq x=an->(b.endLine==S.line)=an->ca p):ca p:=bn (P.c Γ x) λh=>b5 (hq x) λA=>b5 (b.endLine==S.line) λi=>k h A i
def h7{p:Prop}(Γ:bT)(z:aQ)(i:O)(k:Γ.b.lookup z=Y i->Γ.d.lookup z=Y .local->ca p):ca p:=b5 (wb Γ z i) λh=>k (BX h).1 (BX h).2
def sz{p:Prop}(Γ:bT)(x:aQ)(k:Γ.d.lookup x=Y gF->ca p):ca p:=fU (Γ.d.lookup x=Y gF) k
end
end
mutual
def vz{T:hf}{a:a5}(E:∀Γ e,ca (∃l o r p,e=hK l [o] [r] p/\jx o r=ax/\kc T Γ a e)):ha T a:=m0 (λΓ e=>bn (E Γ e) λh=>bp<|Ef h λb b b b b b g=>g) λΓ e=>bn (E Γ e) λh=>bp λw=>Ef h λb b b b e h g=>J e<|Re (az e<|g w) h
def jF(B':hf)(i':a5):ha B' i':=by
 induction i' with
 |d=>exact AC λΓ L=>dV L aI<|bp λA=>tg
 |b i' s' v e'=>exact AC λΓ L=>hi L aI λk h'=>hh v Γ k λH b'=>bn (e'.d Γ h') λd'=>bp λA=>nv (H A) (d' A) b'
 |c g'=>exact dX λΓ E=>fe E aI λk a'=>b5 (sK Γ k g') λH=>bp λA=>aE (nd H).2.1 (λb'=>C4 (nd H).1 b' (nd H).2.2) λb'=>O1 (nd H).1 b' (nd H).2.2
 |s S'=>induction S' using V.casesOn with|z=>exact dX λΓ E=>la E aI λf' l' a'=>dq f' aI qX<|bp λA=>O7|h s'=>exact dX λΓ E=>la E aI λf' l' a'=>dq f' aI (gZ s')<|bp λA=>OJ|a g'=>exact dX λΓ E=>la E aI λf' l' a'=>dq f' aI (.int g')<|bp λA=>OV|p j'=>exact dX λΓ E=>la E aI λf' l' a'=>dq f' aI (.str<|gG j')<|bp λA=>Pk|_=>exact dX λo' o'=>au
 |q l'=>exact dX λΓ E=>fe E aI λk a'=>b5 (sB.contains (k,l')) λH=>sz Γ k λb'=>bp λA=>A.c.q _ _ (ki H) _ _ _ _ b'
 |f i' n g' v=>exact dX λΓ E=>mX E aI λk l' a'=>dq l' aI (eK g')<|bn (v.c Γ k) λH=>b5 (i9 n g') λk'=>b5 (hq k) λm'=>bp λA=>OH A.c.c A.c.i (H A) k' m'
 |w t' i' v=>induction t' with|nextStart=>exact dX λΓ E=>vn E aI λn i a'=>dq n aI .USub<|bn (v.c Γ i) λH=>bp λA=>O5 (H A)|nextBranch=>exact vz (λΓ E=>mZ E aI λk n i a'=>ef n aI λn=>ef i aI λi=>dq n aI .Is<|la i aI λf' l' p'=>dq f' aI qX<|bn (v.c Γ k) λH=>bp ⟨_,_,_,_,I,I,λA=>OX<|H A⟩:∀Γ E,ca (∃L n h' a',E=hK L [n] [h'] a'/\jx n h'=ax/\kc B' Γ (.K i') E))|giveBack=>exact vz (λΓ E=>mZ E aI λk n i a'=>ef n aI λn=>ef i aI λi=>dq n aI .IsNot<|la i aI λf' l' p'=>dq f' aI qX<|bn (v.c Γ k) λH=>bp ⟨_,_,_,_,I,I,λA=>O9<|H A⟩:∀Γ E,ca (∃L n h' a',E=hK L [n] [h'] a'/\jx n h'=ax/\kc B' Γ (.X i') E))|takeMore=>exact vz (λΓ E=>mZ E aI λk n i a'=>ef n aI λn=>ef i aI λi=>dq n aI .Eq<|Ao i aI λf' p'=>dV f' aI<|bn (v.c Γ k) λH=>bp ⟨_,_,_,_,I,I,λA=>OW<|H A⟩:∀Γ E,ca (∃L n h' a',E=hK L [n] [h'] a'/\jx n h'=ax/\kc B' Γ (.aa i') E))|closeLoop=>exact m0 (λΓ E=>vn E aI λn i a'=>dq n aI .Not<|bn (v.c Γ i) λH=>bp λA=>O8 (H A)) λΓ E=>vn E aI λn i a'=>dq n aI .Not<|bn (v.b Γ i) λH=>bp λA=>Rf (H A)|maxBelow=>exact m5 "len" (cH "len") v λA=>OZ A.c.c|maxMore=>exact m5 "abs" (cH "abs") v λA=>OD A.c.c|maxTail=>exact m5 "tuple" (bq "tuple") v λA=>Pn A.c.c|minBelow=>exact m5 "list" (bq "list") v λA=>Pl A.c.c|minTail=>exact m5 "any" (cH "any") v λA=>OF A.c.c|minMore=>exact m5 "all" (cH "all") v λA=>OE A.c.c|possBelow=>exact dX λΓ E=>l4 E aI "isinstance" (cH "isinstance") Γ λp' L j' a' D'=>iv L aI λi c'=>dV j' aI<|fe c' aI λc' al'=>Bc c' aI "tuple" (bq "tuple") Γ λam'=>hh v Γ i λH b'=>bp λA=>OY A.c.c (D' A) (am' A) (H A) b'|possMore=>exact A4 "len" (cH "len") v λA=>A.c.l _ _ _ _ _ _ _ _ _|atomic=>exact A4 "sorted" (cH "sorted") v λA=>A.c.m _ _ _ _ _ _ _ _ _|look=>exact m5 "sorted" (cH "sorted") v λA=>Ph A.c.c|lookNot=>exact dX λΓ E=>s2 E aI λk l' L K' a'=>dq l' aI "pop"<|dV L aI<|s3 v Γ k K' a' λH b' w'=>bp λA=>Pa (H A) b' w'
 |G t' i' s' v e'=>induction t' with|ignore=>exact dX λΓ E=>pQ E aI λk i a'=>bn (v.c Γ k) λH=>bn (e'.c Γ i) λd'=>b5 (!ne i) λb'=>bp λA=>OT (H A) (d' A)<|fw b'|warn=>exact dX λΓ E=>pQ E aI λk i a'=>vm i aI λL x' j' p'=>n7 L aI<|gv x' aI λx'=>n7 j' aI<|bn (v.c Γ k) λH=>bn (e'.c Γ x') λd'=>bp λA=>Pf (H A) (d' A)|raise=>exact dX λΓ E=>pQ E aI λk i a'=>vm i aI λL x' j' p'=>gv L aI λL=>n7 x' aI<|n7 j' aI<|bn (v.c Γ k) λH=>bn (e'.c Γ L) λd'=>bp λA=>Pe (H A) (d' A)|call=>exact A3 "max" (cH "max") v e' λA=>O2 A.c.c|print=>exact A3 "min" (cH "min") v e' λA=>O4 A.c.c|log=>exact dX λΓ E=>Lh i' aI λg'=>wh s' aI λan'=>An E aI λk i a'=>ef k aI λk=>ef i aI λi=>gv k aI λk=>fe k aI λk p'=>la i aI λf' l' p'=>dq f' aI (gZ an')<|h7 Γ k g' λH b'=>b5 (!(k==("__debug__":aQ))) λd'=>bp λA=>OP A.c.c H b' (fw d')
 |Q i' s' f' v e' C'=>exact dX λΓ E=>pQ E aI λk i a'=>vm i aI λL x' j' p'=>gv L aI λL=>gv x' aI λx'=>n7 j' aI<|bn (v.c Γ k) λH=>bn (e'.c Γ L) λd'=>bn (C'.c Γ x') λE'=>bp λA=>Pg (H A) (d' A) (E' A)
 |m t' i' s' v e'=>exact dX λΓ E=>GS E aI λk n i a'=>dq n aI (Hj t')<|bn (v.c Γ k) λH=>bn (e'.c Γ i) λd'=>bp λA=>OI (H A) (d' A) (match t' with|cY=>λF' G' H' I' H=>Nj F' G' H' I' H|dK=>λF' G' H' I' H=>Np F' G' H' I' H|lN=>λF' G' H' I' H=>Nn F' G' H' I' H|g4=>λF' G' H' I' H=>Nk F' G' H' I' H|hL=>λF' G' H' I' H=>Nm F' G' H' I' H)
 |l t' i' s' v e'=>exact m0 (λΓ E=>mZ E aI λk n i a'=>ef n aI λn=>ef i aI λi=>dq n aI (fx t')<|bn (v.c Γ k) λH=>bn (e'.c Γ i) λd'=>b5 (!jx (fx t') i) λb'=>bp λA=>OL A.c.c (H A) (d' A) (fw b')) λΓ E=>mZ E aI λk n i a'=>ef n aI λn=>ef i aI λi=>dq n aI (fx t')<|bn (v.c Γ k) λH=>bn (e'.c Γ i) λd'=>b5 (!jx (fx t') i) λb'=>bp λA=>Rc A.c.c (H A) (d' A) (fw b')
 |R t' U' i' s' f' v e' C'=>exact m0 (λΓ E=>mZ E aI λk n i a'=>iv n aI λn V'=>iv i aI λi c'=>dq n aI (fx t')<|dq V' aI (fx U')<|bn (v.c Γ k) λH=>bn (e'.c Γ i) λd'=>bn (C'.c Γ c') λE'=>b5 (!jx (fx U') c') λb'=>bp λA=>OM A.c.c (H A) (d' A) (E' A) (fw b')) λΓ E=>mZ E aI λk n i a'=>iv n aI λn V'=>iv i aI λi c'=>dq n aI (fx t')<|dq V' aI (fx U')<|bn (v.c Γ k) λH=>bn (e'.c Γ i) λd'=>bn (C'.c Γ c') λE'=>b5 (!jx (fx U') c') λb'=>bp λA=>Rd A.c.c (H A) (d' A) (E' A) (fw b')
 |t i' s' v e'=>exact m0 (λΓ E=>si E aI λn L a'=>dq n aI mB<|hi L aI λk h'=>hi h' aI λi h'=>bn (v.c Γ k) λH=>hF (dV h' aI<|bn (e'.c Γ i) λd'=>bp λA=>C2 (H A) (C3<|d' A))<|bn (e'.c Γ<|g1 mB (i::h') a') λd'=>bp λA=>C2 (H A) (d' A)) λΓ E=>si E aI λn L a'=>dq n aI mB<|hi L aI λk h'=>hi h' aI λi h'=>bn (v.b Γ k) λH=>hF (dV h' aI<|bn (e'.b Γ i) λd'=>bp λA=>DX (H A) (Rb<|d' A))<|bn (e'.b Γ<|g1 mB (i::h') a') λd'=>bp λA=>DX (H A) (d' A)
 |B i' s' v e'=>exact m0 (λΓ E=>si E aI λn L a'=>dq n aI .Or<|hi L aI λk h'=>hi h' aI λi h'=>bn (v.c Γ k) λH=>hF (dV h' aI<|bn (e'.c Γ i) λd'=>bp λA=>C5 (H A) (C3<|d' A))<|bn (e'.c Γ<|g1 .Or (i::h') a') λd'=>bp λA=>C5 (H A) (d' A)) λΓ E=>si E aI λn L a'=>dq n aI .Or<|hi L aI λk h'=>hi h' aI λi h'=>bn (v.b Γ k) λH=>hF (dV h' aI<|bn (e'.b Γ i) λd'=>bp λA=>DY (H A) (Rg<|d' A))<|bn (e'.b Γ<|g1 .Or (i::h') a') λd'=>bp λA=>DY (H A) (d' A)
 |D i' s' f' v e' C'=>exact m0 (λΓ E=>GT E aI λk i c' a'=>bn (v.b Γ k) λH=>bn (e'.c Γ i) λd'=>bn (C'.c Γ c') λE'=>bp λA=>OU (H A) (d' A)<|E' A) λo' o'=>au
 |e T' f'=>exact dX λΓ E=>Ao E aI λL a'=>bn (f'.d Γ L) λH=>bp λA=>O0<|H A
 |g T' f'=>exact dX λΓ E=>pR E aI λL l' a'=>bn (f'.d Γ L) λH=>bp λA=>Pm<|H A
 |S=>exact dX λΓ E=>An E aI λk i a'=>dV k aI<|dV i aI<|bp λA=>OO A.c.c
 |x i' s' f' v e' C'=>exact dX λΓ E=>l4 E aI "range" (bq "range") Γ λp' L j' a' D'=>dV j' aI<|hF (ef L aI λi=>wi i' aI 0<|wi f' aI 1<|hh e' Γ i λH b'=>bp λA=>Pb A.c.c (D' A) (H A) b')<|hF (iv L aI λi c'=>wi f' aI 1<|hh v Γ i λH b'=>hh e' Γ c' λd' w'=>bp λA=>Pc A.c.c (D' A) (H A) (d' A) b' w')<|Am L aI λi c' x'=>hh v Γ i λH b'=>hh e' Γ c' λd' w'=>hh C' Γ x' λE' ao'=>bp λA=>Pd A.c.c (D' A) (H A) (d' A) (E' A) b' w' ao'
 |M i' y' v=>exact dX λΓ E=>l4 E aI "sorted" (cH "sorted") Γ λp' L j' a' D'=>ef L aI λi=>ef j' aI λj'=>pO j' aI "key" λS' ap'=>fe S' aI λc' al'=>sz Γ c' λk'=>b5 (B'.g.contains (c',y')) λm'=>hh v Γ i λH b'=>bp λA=>haveI q':=A.c.g _ _<|ki m';Pi A.c.c A.d (D' A) (H A) b' k' q'.1 q'.2.1
 |W i' n y' aq' v ar'=>exact dX λΓ E=>l4 E aI "sorted" (cH "sorted") Γ λp' L j' a' D'=>ef L aI λi=>iv j' aI λj' as'=>pO j' aI "key" λS' ap'=>mX S' aI λaf' ag' az'=>pO as' aI "reverse" λat' aA'=>la at' aI λf' l' p'=>dq f' aI (gZ aq')<|b5 (B'.j.contains (0,ag',y')) λk'=>b5 (B'.h.contains (ag',y')) λm'=>b5 (hq af') λr'=>bn (ar'.c Γ af') λz'=>hh v Γ i λH b'=>bp λA=>haveI q':=A.c.j _ _ _<|ki k';haveI ah':=A.c.h _ _<|ki m';Pj A.c.c A.c.i A.d (D' A) (H A) b' (z' A) r' q'.1 ah'.1 q'.2 ah'.2
 |y g' W' X' L' M'=>exact sq λΓ E=>pP E aI λk N' n' Y'=>ef N' aI λb'=>pN b' aI λO' A' P'=>fe O' aI λc' a'=>dV P' aI<|b5 (ob Γ n' [c'] [g']) λk'=>bn (L'.c Γ A') λm'=>b5 (!iA A') λr'=>h7 (gO Γ n' [c'] [g']) c' g' λz' J'=>bn (M'.c (gO Γ n' [c'] [g']) k) λQ'=>bp λA=>.mk (sp k') (m' A) (fw r') (HI z' J'<|Q' A)
 |C g' W' f' X' L' C' M'=>exact sq λΓ E=>pP E aI λk N' n' Y'=>ef N' aI λb'=>pN b' aI λO' A' P'=>fe O' aI λc' a'=>ef P' aI λi=>b5 (ob Γ n' [c'] [g']) λk'=>bn (L'.c Γ A') λm'=>b5 (!iA A') λr'=>h7 (gO Γ n' [c'] [g']) c' g' λz' J'=>bn (M'.c (gO Γ n' [c'] [g']) k) λQ'=>bn (C'.b (gO Γ n' [c'] [g']) i) λZ'=>bp λA=>.mk (sp k') (m' A) (fw r')<|HK z' J' (Z' A)<|Q' A
 |T g' u' W' X' L' M'=>exact sq λΓ E=>pP E aI λk N' n' Y'=>ef N' aI λb'=>pN b' aI λO' A' P'=>dV P' aI<|pR O' aI λau' aB' a'=>iv au' aI λc' v'=>fe c' aI λc' p'=>fe v' aI λv' av'=>b5 (ob Γ n' [c',v'] [g',u']) λk'=>bn (L'.c Γ A') λm'=>b5 (!iA A') λr'=>h7 (gO Γ n' [c',v'] [g',u']) c' g' λz' J'=>h7 (gO Γ n' [c',v'] [g',u']) v' u' λaa' ab'=>fU (g'≠u') λac'=>bn (M'.c (gO Γ n' [c',v'] [g',u']) k) λQ'=>bp λA=>.mk (sp k') (m' A) (fw r') (HL z' J' aa' ab' ac'<|Q' A)
 |N g' W' u' R' X' L' ad' M'=>exact sq λΓ E=>by revert ad';exact Ll R' (λo' o'=>au) λR'=>B6 R' (λo' o'=>au) λai' R'=>wh ai' (λo' o'=>au) λai'=>B6 R' (λo' o'=>au) λaj' R'=>wh aj' (λo' o'=>au) λaj'=>Li R' (λo' o'=>au) λad'=>pP E aI λk N' n' Y'=>iv N' aI λb' w'=>pN b' aI λO' A' P'=>dV P' aI<|pN w' aI λaw' ak' ax'=>dV ax' aI<|fe O' aI λc' p'=>fe aw' aI λv' av'=>b5 (ob Γ n' [c',v'] [g',u']) λk'=>bn (L'.c Γ A') λm'=>b5 (!iA A') λr'=>h7 (gO Γ n' [c',v'] [g',u']) c' g' λz' J'=>h7 (gO Γ n' [c',v'] [g',u']) v' u' λaa' ab'=>fU (g'≠u') λac'=>bn (M'.c (gO Γ n' [c',v'] [g',u']) k) λQ'=>bn (ad'.c (gO Γ n' [c',v'] [g',u']) ak') λZ'=>b5 (!iA ak') λay'=>bp λA=>.mk (sp k') (m' A) (fw r') (HJ z' J' aa' ab' ac' (λaC' aD' aE' aF' aG' H=>H) (Z' A) (fw ay')<|Q' A)
 |r y' T' f'=>exact dX λΓ E=>mY E aI λb' L j' a'=>fe b' aI λk p'=>dV j' aI<|sz Γ k λk'=>b5 (B'.g.contains (k,y')) λm'=>bn (f'.d Γ L) λH=>b5 (L.all cr) λr'=>bp λA=>haveI q':=A.c.g _ _<|ki m';OK A.c.c A.d k' q'.1 q'.2.1 q'.2.2 (H A) r'
 |j i' n y' T' v f'=>exact dX λΓ E=>s2 E aI λk l' L K' a'=>s3 v Γ k K' a' λH b' w'=>b5 (B'.j.contains (n,l',y')) λm'=>bn (f'.d Γ L) λz'=>b5 (L.all cr) λr'=>fU (Z L<30) λJ'=>bp λA=>haveI q':=A.c.j _ _ _<|ki m';O3 A.c.c A.c.i A.d (H A) q'.1 q'.2 (z' A) r' b' J' w'
 |u n y' T' f'=>exact dX λΓ E=>mY E aI λb' L j' a'=>fe b' aI λk p'=>dV j' aI<|sz Γ k λk'=>b5 (B'.b.contains (k,n,y')) λm'=>bn (f'.d Γ L) λH=>b5 (L.all cr) λr'=>bp λA=>haveI q':=A.c.b _ _ _<|ki m';O6 A.c.c A.d k' q'.1 q'.2.1 q'.2.2 (H A) r'
 |P y' T' f'=>exact dX λo' o'=>au
 |o i' s' v e'=>exact dX λΓ E=>s2 E aI λk l' L K' a'=>dq l' aI "append"<|ef L aI λi=>s3 v Γ k K' a' λH b' w'=>hh e' Γ i λk' ae'=>bp λA=>OG (H A) (k' A) b' ae' w'
 |F i' s' v e'=>exact dX λΓ E=>s2 E aI λk l' L K' a'=>dq l' aI "extend"<|ef L aI λi=>s3 v Γ k K' a' λH b' w'=>hh e' Γ i λk' ae'=>bp λA=>OQ (H A) (k' A) b' ae' w'
def w1(e:a5):ba:=(hv e).isNone
theorem qD(h:w1 a=an):hv a=au:=Option.isNone_iff_eq_none.mp h
def tq(Γ:bT)(a D:U cC)(K:U aQ):ba:=(Z a==2||Z a==3)&&(Z D==Z a)&&D.all cr&&a0 (kC Γ.d a D=K)&&(Z K==Z a)&&(Z K.eraseDups==Z K)&&!(D.all<|TC 8)&&!(D.all<|TA 8)
theorem DP(h:tq Γ b D c=an):∀a,a.scope.kind=hy->a.scope.names=Γ.d->mJ [e7 b k p] (e7 D G E) a=cG (Y c):=by delta tq at h;simp only[iK,g8,kM]at h;refine bb ?_;intro f;refine aM h λs w=>?_;obtain⟨⟨⟨⟨⟨⟨A,i⟩,Q⟩,d⟩,e⟩,P⟩,B⟩:=s;exact QY A i Q d e P B w
end
section
variable(T:hf)
mutual
def r0(Γ:bT)(a:fT)(e:cC):Prop:=∀w:hg T,i3 w.a Γ w.b w.n a e
def yL(Γ:bT)(a:fT)(e:U cC):Prop:=∀w:hg T,nZ w.a Γ w.b w.n a e
def uG(Γ:bT)(a:bo)(e:lO):Prop:=∀w:hg T,fS w.a Γ w.b w.n a e
def FR(Γ:bT)(a:bo)(e:U lO):Prop:=∀w:hg T,hV w.a Γ w.b w.n a e
structure yq(a:fT)where
 b:∀Γ e,ca (r0 T Γ a e)
 d:∀Γ e,ca (yL T Γ a e)
 c:∀Γ e,ca (r0 T Γ a e)
 f:∀e,ha T e->∀Γ k M p,ca (uG T Γ (.b a e)<|mE [k] M p)
structure yr(a:bo)where
 c:∀Γ e,ca (uG T Γ a e)
 d:∀Γ e,ca (FR T Γ a e)
end
end
section
variable{T:hf}
mutual
def As{a:fT}(A:∀Γ e,ca (r0 T Γ a e)):yq T a:=⟨A,λb b=>au,A,λe C Γ k M p=>bn (A Γ k) λh=>bn (C.c Γ M) λc=>b5 (!p8 k) λg=>b5 (cr k) λu=>b5 (!oj k) λP=>bp λw=>DH (h w) (c w) (a1<|fw g) u<|fw P⟩
def qi{p:Prop}(x y:aQ)(k:x≠y->ca p):ca p:=b5 (!(x==y)) λh=>k<|MV h
def AB(v:fT):yq T v:=by induction v with|d=>exact⟨λt t=>au,λΓ l=>dV l aI<|bp λw=>G0,λt t=>au,λt t t t t t=>au⟩|b v C o q=>have L:∀Γ e,ca (yL T Γ (.b v C) e):=λΓ l=>hi l aI λx r=>bn (o.b Γ x) λh=>b5 (cr x) λg=>bn (q.d Γ r) λG=>bp λw=>GZ (h w) (G w) g;exact⟨λt t=>au,L,λΓ e=>pR e aI λu k p=>bn (L Γ u) λh=>bp λw=>Ar<|h w,λe K Γ D M y'=>pR D aI λu k p=>bn (K.c Γ M) λE=>b5 (w1 e) λF=>b5 (!lm M) λQ=>hF (b5 (!oj M) λa'=>bn (L Γ u) λh=>bp λw=>DI (h w) (E w) (fw Q) (qD F) λb' t t=>QX (fw a') b')<|pR M (λt t=>au) (λN z' A' E=>b5 (N.all cr) λc'=>hF (b5 (((Z u==2||Z u==3)==ax)||(Z (kC Γ.d u N)!=Z u)) λd'=>bn (L Γ u) λh=>bp λw=>DI (h w) (E w) I (qD F)<|QW ((Bool.or_eq_true_iff.mp d').imp gk id) c')<|w7 v aI λB=>DR C aI λC P=>w7 C aI λm=>hF (DS P aI<|iv u aI λx y=>fe x aI λx H=>fe y aI λy R=>h7 Γ x B λS W=>h7 Γ y m λX j=>qi x y λn=>b5 (tq Γ [bR x H,bR y R] N [x,y]) λs=>bp λw=>QB (E w) S X W j n (qD F) (DP s))<|DR P aI λP e'=>w7 P aI λf'=>DS e' aI<|Am u aI λx y z=>fe x aI λx H=>fe y aI λy R=>fe z aI λz g'=>h7 Γ x B λS W=>h7 Γ y m λX j=>h7 Γ z f' λh' i'=>qi x y λn=>qi x z λj'=>qi y z λk'=>b5 (tq Γ [bR x H,bR y R,bR z g'] N [x,y,z]) λs=>bp λw=>QC (E w) S X h' W j i' n j' k' (qD F) (DP s)) E⟩|a B=>have A:∀Γ e,ca (r0 T Γ (.a B) e):=λΓ e=>fe e aI λx p=>b5 (sK Γ x B) λh=>bp λw=>Aq (nd h).1 (nd h).2.1;exact⟨A,λt t=>au,A,λe K Γ D M p=>b5 (w1 e) (λF=>fe D aI λz H=>bn (K.f Γ M) λh=>pP M (λt t=>au) (λx B' l' m' h=>b5 (H.line==m'.line&&!(l'.names.any λ(n,k)=>n==z&&(k==.local||k==d4))) λg=>h7 Γ z B λn' o'=>bp λw=>by cases h w with|mk p' q' r' s'=>exact QA p' q' r' n' o' (qD F) g λL t' u'=>s' L t' u') h)|>hF (bn (A Γ D) λh=>bn (K.c Γ M) λG=>b5 (!lm M) λg=>b5 (cr D) λv'=>b5 (!oj D) λw'=>bp λw=>DH (h w) (G w) (aK<|fw g) v'<|fw w')⟩|f v x' B=>exact As λΓ e=>mX e aI λx n p=>dq n aI (eK B)<|bn ((jF T v).c Γ x) λh=>b5 (i9 x' B) λg=>bp λw=>GV w.c.c w.c.i (h w) g|i v C=>exact As λΓ e=>pQ e aI λx y p=>bn ((jF T v).c Γ x) λh=>bn ((jF T C).c Γ y) λG=>b5 (!ne y) λg=>bp λw=>GW w.c.c (h w) (G w)<|fw g
end
section
variable{P:lO->Type}(e:lO)(d:∀e,P e)
mutual
@[elab_as_elim]def NR(k:∀l x p,P (mE l x p)):P e:=by induction e using nJ with|Assign l x p=>exact k l x p|_=>exact d _
@[elab_as_elim]def wM(k:∀x p,P (rt x p)):P e:=by induction e using nJ with|Expr x p=>exact k x p|_=>exact d _
@[elab_as_elim]def N0(k:∀x p,P (xZ x p)):P e:=by induction e using nJ with|Return x p=>exact k x p|_=>exact d _
@[elab_as_elim]def NX(k:∀x l m p,P (.If x l m p)):P e:=by induction e using nJ with|If x l m p=>exact k x l m p|_=>exact d _
@[elab_as_elim]def N1(k:∀x l m p,P (.While x l m p)):P e:=by induction e using nJ with|While x l m p=>exact k x l m p|_=>exact d _
@[elab_as_elim]def NW(k:∀t x l m p,P (.For t x l m p)):P e:=by induction e using nJ with|For t x l m p=>exact k t x l m p|_=>exact d _
@[elab_as_elim]def NS(k:∀p,P (.Break p)):P e:=by induction e using nJ with|Break p=>exact k p|_=>exact d _
@[elab_as_elim]def NT(k:∀p,P (E8 p)):P e:=by induction e using nJ with|Continue p=>exact k p|_=>exact d _
end
end
mutual
def fZ{a:bo}(b:∀Γ e,ca (uG T Γ a e)):yr T a:=⟨b,λΓ l=>ef l aI λe=>bn (b Γ e) λh=>bp λw=>Qu<|h w⟩
def vx(C:bo):yr T C:=by induction C with|e=>exact⟨λG G=>au,λΓ u=>dV u aI<|bp λw=>Qx⟩|d C W P H=>exact⟨λG G=>au,λΓ u=>hi u aI λx r=>bn (P.c Γ x) λy=>bn (H.d Γ r) λB=>bp λw=>Qw (y w)<|B w⟩|b t e=>exact fZ λΓ s=>NR s aI λu x p=>ef u aI λu=>(AB t).f e (jF T e) Γ u x p|f e=>exact fZ λΓ s=>wM s aI λx p=>bn ((jF T e).c Γ x) λy=>b5 (!lm x) λE=>bp λw=>QF (y w)<|fw E|a e=>exact fZ λΓ s=>N0 s aI λx p=>hF (gv x aI λx=>bn ((jF T e).c Γ x) λy=>bp λw=>QI<|y w)<|n7 x aI<|Lj e aI<|bp λw=>QJ|c D C W P H=>exact fZ λΓ s=>NX s aI λx u m p=>bn ((jF T D).b Γ x) λy=>bn (P.d Γ u) λB=>bn (H.d Γ m) λX=>bp λw=>QH (y w) (B w)<|X w|h D C P=>exact fZ λΓ s=>N1 s aI λx u m p=>dV m aI<|bn ((jF T D).b Γ x) λy=>bn (P.d Γ u) λB=>bp λw=>QL (y w) (B w)|g t e C P=>exact fZ λΓ s=>NW s aI λo x u m p=>dV m aI<|bn ((AB t).c Γ o) λE=>bn ((jF T e).c Γ x) λy=>bn (P.d Γ u) λB=>b5 (!iA x) λq=>bp λw=>QG (E w) (y w) (B w) (fw q)|j=>exact fZ λΓ s=>NS s aI λp=>bp λw=>QD|k=>exact fZ λΓ s=>NT s aI λp=>bp λw=>QE|i=>exact fZ λΓ s=>bp λw j' k' l' D m' n' o' p' q' y=>be y|l v A K F=>exact fZ λΓ s=>wM s aI λe p=>mY e aI λE u s p=>dV u aI<|iv s aI λs L=>mX E aI λz n Q=>fe z aI λz r'=>dq n aI "sort"<|pO s aI "key" λR s'=>mX R aI λM N t'=>pO L aI "reverse" λa' u'=>la a' aI λD n v'=>dq D aI (gZ F)<|b5 (T.j.contains (0,N,K)) λb'=>b5 (T.h.contains (N,K)) λc'=>b5 (hq M) λd'=>bn ((jF T A).c Γ M) λe'=>h7 Γ z v λf' g'=>b5 (!(z==("__debug__":aQ))) λh'=>b5 (Q.endLine==p.line) λi'=>bp λw=>haveI m:=w.c.j _ _ _<|ki b';haveI S:=w.c.h _ _<|ki c';QK w.c.c w.c.i w.d f' g' (fw h') (e' w) d' m.1 S.1 m.2 S.2 i'
end
end
mutual
theorem AA(l:U (aQ×lM)):∀n a,((x,d4)∈l\/(a.lookup x).isSome=an)->((x4 n l a).lookup x).isSome=an:=by
 induction l with
 |nil=>intro p p h;refine aE h (λh=>?_) λh=>?_;cases h;exact h
 |cons z r d=>
  obtain⟨y,k⟩:=z;intro n a h;unfold x4;split
  .refine d (n+1) _ ?_;by_cases e:x=y
   .right;refine J e ?_;simp
   .rcases h with h|h
    .rcases cu.mp h with h|h
     .exact aA (tS h).1 e
     .exact aK h
    .right;refine J jq ?_;haveI:(x==y)=ax:=by simpa using e
     exact J this h
  .rename_i C;refine d n a<|bb ?_;intro b;rcases h with h|h
   .rcases cu.mp h with h|h
    .exact aA (by refine az (tS h).2 ?_;rfl) C
    .exact aK h
   .exact a1 h
def eR(l:mD):U aQ:=l.params.args.map (·.arg)
def vO(l:mD)(R:U (aQ×O)):ba:=a0 (l.scope.kind=hy)&&!l.scope.isCoroutine&&!l.scope.isGenerator&&(l.globals==eO)&&(l.builtins==rx)&&a0 (b0 (eR l))&&((eR l).all λx=>a0 (l.scope.names.lookup x=Y .local)||a0 (l.scope.names.lookup x=Y d4))&&(R.all λ(x,i)=>((a0 (i<Z (eR l))&&a0 ((eR l)[i]?=Y x))||(a0 (Z (eR l)<=i)&&!(eR l).contains x))&&!a0 (l.scope.names.lookup x=Y ez))&&a0 (b0 (R.map (·.2)))
theorem Ix(h:vO l R=an):mN ⟨l.scope.names,R⟩ l<|eR l:=by
 revert l R;refine@kx _<|jJ @(letI l:=_;letI R:=_;(jT ?_:is _ _ _ _ l R));intros;unfold vO at h;simp only[iK,kM,g8]at h;refine aM h λs K=>?_;obtain⟨⟨⟨⟨⟨⟨⟨A,c⟩,Q⟩,d⟩,f⟩,B⟩,w⟩,m⟩:=s;haveI a:=λx i M=>gl.mp m (x,i)<|nl M;refine⟨A,c,Q,I,gk d,gk f,I,B,λx M=>?_,λx i M=>?_,λx i M g n=>AA _ _ _<|aK<|nl g,λx i M=>?_,λx y i M j=>C6 K M j⟩
 .haveI:=gl.mp w x M;simp only[oU,g8]at this;exact this.imp id λe=>⟨e,λn=>AA _ _ _<|aK<|nl e⟩
 .haveI:=a x i M;simp only[iK,oU,kM,g8]at this;refine aE this.1 (λX=>aM X λh b=>aK ⟨h,b⟩) λX=>aM X λh b=>?_
  .refine a1 ⟨h,λT=>?_⟩;rw[qP.mpr T]at b;exact aC b ar
 .haveI:=a x i M;simp only[iK,kM,yk]at this;exact this.2
def eJ{α:Type}{P Q:α->Prop}(a:α):P a->ca (Q a):=λp=>au
def hl{α:Type}{p:Prop}(x:α)(k:∀y,x=y->ca p):ca p:=k x I
end
section
variable{P:ik->Type}(o:ik)(d:∀e,P e)
mutual
@[elab_as_elim]def M1(k:∀c d f s,P ⟨c,d,o8 f,s⟩):P o:=by induction o using t1 with|mk c R a s=>induction a using tX with|func f=>exact k c R f s|_=>exact d _
@[elab_as_elim]def M2(k:∀c d f n s,P ⟨c,d,c9 f n,s⟩):P o:=by induction o using t1 with|mk c R a s=>induction a using tX with|seq f n=>exact k c R f n s|_=>exact d _
@[elab_as_elim]def M0(k:∀c d f s,P ⟨c,d,fo f,s⟩):P o:=by induction o using t1 with|mk c R a s=>induction a using tX with|fields f=>exact k c R f s|_=>exact d _
@[elab_as_elim]def MZ(k:∀c d f s,P ⟨c,d,tY f,s⟩):P o:=by induction o using t1 with|mk c R a s=>induction a using tX with|cell f=>exact k c R f s|_=>exact d _
end
end
mutual
@[elab_as_elim]def G7{P:FuncBody->Type}(o:FuncBody)(d:∀e,P e)(k:∀l,P (q4 l)):P o:=by induction o using Uq with|stmts l=>exact k l|_=>exact d _
@[elab_as_elim]def D5{P:aZ->Type}(o:aZ)(d:∀e,P e)(k:∀l,P (aN l)):P o:=by induction o using ru with|ref l=>exact k l|_=>exact d _
@[elab_as_elim]def Rs{P:aZ->Type}(o:aZ)(d:∀e,P e)(k:∀l t,P (cS l t)):P o:=by induction o using ru with|int l t=>exact k l t|_=>exact d _
@[elab_as_elim]def D6{P:aZ->Type}(o:aZ)(d:∀e,P e)(k:∀l t,P (fz l t)):P o:=by induction o using ru with|str l t=>exact k l t|_=>exact d _
theorem rL{N:av}(e:R f=Y a)(h:aO R (i+1) f g Q N):Z g=a.d/\dH (aO R i) a.b (jf Q) (a.a g) N:=by
 replace h:bF (R f) _:=h;rw[e]at h;refine⟨h.1,?_⟩;haveI:(jf Q)=(λL p A=>match L with|.c v=>Q v A|.b=>Q .z A|_=>bW):=by funext L _ A;induction L<;>rfl
 exact J this h.2.2
end
section
variable{T:hf}
mutual
def uv(w:hg T)(f:O):Prop:=∀{A:cR}{c:bl}{Q:V->av->Prop}{a:U V}{b:U aZ},iX A (w.n+1)->aV w.a c->bm c a b->aO w.b (w.n+1) f a Q c.a->f9 (a7 w.a.b w.a.a) A (nH (aN<|w.g f) ⟨b,[]⟩) (nW w.a c Q) c.d
def kj(K:et)(a:aU):a3 mD:=match K.lookup a with|Y ⟨_,_,o8 l,_⟩=>Y l|_=>au
def ul(K:et)(a:aU):Prop:=∀l,kj K a=Y l->∀b:U aZ,Z (eR l)=Z b->nL l ⟨b,[]⟩=cG ((eR l).zip b)
def yO(T:hf)(K:et)(f:O)(a:aU)(b:bg):Prop:=∀w:hg T,w.a.d=K->w.g f=a->w.b f=Y b->ul K a->uv w f
def vN{p:Prop}(K:et)(a:aU)(R:U (aQ×O))(k:∀l b v c H,K.lookup a=Y ⟨v,c,o8 l,H⟩->l.body=q4 b->t3 K l.code l.qualname=an->mN ⟨l.scope.names,R⟩ l (eR l)->ca p):ca p:=hl (K.lookup a) λo=>gv o eJ λo=>M1 o eJ λv c l H z=>b5 (vO l R) λA=>b5 (t3 K l.code l.qualname) λi=>hl l.body λb=>G7 b eJ λb d=>k l b v c H z d i<|Ix A
def Nz(T:hf)(K:et)(f:O)(a:aU)(e:bg)(g:U (aQ×O)):ca<|yO T K f a e:=vN K a g λl b v y H z h i j=>b5 l.closure.isEmpty λk=>b5 (l.defaults==dL) λm=>b5 e.c.isEmpty λn=>fU (e.d=Z (eR l)) λP=>bn ((vx (T:=T) e.b).d ⟨l.scope.names,g⟩ b) λB=>bp λw x o p q A c Q C D r R s t=>by refine bb ?_;intro E;subst x o;exact aM (rL p t) λu t=>Hv w.c.c j z i h (xA.mp k) (gk m) (xA.mp n) (B w) (q l (by unfold kj;exact J z I)) r R s (bx u P) t
end
end
mutual
def gM(n:O):aU:=((p1[n]?).map (·.2.1)).getD 0
def qG:hf where
 g:=[("place_of",17),("order_key",18),("clause_of",19),("is_always_true",20),("order_of",60),("tidy",61),("is_tidy",62),("resolve_on",63),("_law_drawn",70),("_law_tidied",71),("_law_is_true",72),("_law_has",73),("_law_keeps",74),("_law_all_worlds",75),("_law_is_failed",76),("_law_is_answered",77),("_law_is_asked",78)]
 b:=[("CoreHeap",1,1),("Search",0,38),("Proof",2,64)]
 j:=([(0,"place",0),(1,"many",2),(1,"is_held",3),(1,"is_before",4),(1,"grow",5),(1,"put",6),(1,"rise",7),(1,"better_child",8),(1,"sink",9),(1,"push",10),(1,"pop",11),(1,"pop_best",12),(1,"bump",13),(1,"decay",14),(1,"rescale",15),(1,"rebuild",16),(0,"grow",22),(0,"value",23),(0,"depth",24),(0,"spot_of",25)]:U (O×aQ×O))++([(0,"by_spots",26),(0,"store",27),(0,"watch",28),(0,"height",29),(0,"by_heights",30),(0,"top_level",31),(0,"enqueue",32),(0,"new_level",33),(0,"cancel_until",34),(0,"propagate_clauses",35),(0,"visit",36),(0,"moved",37),(0,"new_var",39),(0,"add_clause",40),(0,"failed_assumptions",41),(0,"failed_step",42),(0,"log_chain",43),(0,"root_pairs",44),(0,"unit_step",45),(0,"fail_at_root",46)]:U (O×aQ×O))++([(0,"propagate",47),(0,"note_lits",48),(0,"analyze",49),(0,"is_implied",50),(0,"shortened",51),(0,"handle",52),(0,"note_use",53),(0,"pause",54),(0,"solve",55),(0,"step_on",56),(0,"ask_final",57),(0,"find_failed",58),(0,"mark_others",59),(2,"clause",65),(2,"add",66),(2,"chain",67),(2,"needed",68),(2,"used_inputs",69)]:U (O×aQ×O))
 h:=[("spot_of",25),("height",29)]
def hW{α:Type}{P:α->Prop}(l:U α)(k:∀x,ca (P x)):ca<|∀x∈l,P x:=xH (bp λx h=>aC h ar) (λa r d=>bn (k a) λh=>bn d λb=>bp λx M=>aE (cu.mp M) (λe=>J e h)<|b x) l
def eA{α:Type}[BEq α][Ey α]{p:Prop}(a b:α)(k:a=b->ca p):ca p:=b5 (a==b) λh=>k<|gk h
def nn{p:Prop}(a:ba)(k:a=ax->ca p):ca p:=b5 (!a) λh=>k<|fw h
@[elab_as_elim]def A6{P:V->Type}(o:V)(d:∀e,P e)(k:∀l,P (.a l)):P o:=by induction o using V.casesOn with|a l=>exact k l|_=>exact d _
@[elab_as_elim]def JU{P:V->Type}(o:V)(d:∀e,P e)(k:∀l,P (.g l)):P o:=by induction o using V.casesOn with|g l=>exact k l|_=>exact d _
@[elab_as_elim]def JT{P:V->Type}(o:V)(d:∀e,P e)(k:∀l,P (.p l)):P o:=by induction o using V.casesOn with|p l=>exact k l|_=>exact d _
def QO(l:U V):∀R:U aZ,ca (∀c,bm c l R):=xH (λR=>dV R aI<|bp λc=>.d) (λv r a R=>hi R aI λx R=>JT v aI λs=>D6 x aI λy t=>dq y aI (gG s)<|bn (a R) λh=>bp λc=>.b (.p s t) (h c)) l
structure yx(K:et)(o:O):Prop where
 l:x0 K (cw o)=an
 c:g5 K (aN<|cw o) "__getattribute__"=Y (Y<|cH "object.__getattribute__")
 d:g5 K (aN<|cw o) "__setattr__"=Y (Y<|cH "object.__setattr__")
 b:x3 K (cw o)=an
 i:∀a∈b2 fY,i9 o a=an->g5 K (aN<|cw o) (eK a)=Y au
theorem KD{K:et}(h:∀o∈[0,1,2],yx K o):i0 K:=by
 have g:∀o,∃y,cw o=cw y/\yx K y/\∀a,i9 o a=an->o=y:=λo=>match o with|0=>⟨0,I,h 0 as,λp p=>I⟩|1=>⟨1,I,h 1 as,λp p=>I⟩|2=>bO 2 I (h 2 (by simp)) λp p=>I|n+3=>bO 2 I (h 2 (by simp)) λa e=>aC e ar;refine⟨λo=>?_,λo=>?_,λo=>?_,λo=>?_,λo a q=>?_⟩<;>refine ch (g o) λy e k i=>?_
 .exact J e k.l
 .exact J e k.c
 .exact J e k.d
 .exact J e k.b
 .obtain rfl:=i a q;exact k.i a (ed.mpr<|vT q) q
def KC(K:et):ca<|i0 K:=bn (hW [0,1,2] λo=>b5 (x0 K<|cw o) λA=>eA (g5 K (aN<|cw o) "__getattribute__") _ λi=>eA (g5 K (aN<|cw o) "__setattr__") _ λQ=>b5 (x3 K<|cw o) λb=>bn (hW (P:=λa=>i9 o a=an->g5 K (aN<|cw o) (eK a)=Y au) (b2 fY) λa=>hF (nn (i9 o a) λq=>bp λR=>aC (bx q.symm R) ar)<|eA (g5 K (aN<|cw o)<|eK a) _ λh=>bp λp=>h) λd=>bp ⟨A,i,Q,b,d⟩) λh=>bp<|KD h
def uA(B:bZ):Prop:=∀(Γ:bT)R d a e p E S b,dP B Γ "len" (cH "len")->dP B Γ "set" (bq "set")->a6 B Γ R d a e->cr e=an->a6 B Γ R d (.ad a) (cz (bR "len" p) [cz (bR "set" E) [e] [] b] [] S)
def uB(B:bZ):Prop:=∀(Γ:bT)R d a e p E S b,dP B Γ "sorted" (cH "sorted")->dP B Γ "set" (bq "set")->a6 B Γ R d a e->cr e=an->a6 B Γ R d (.ae a) (cz (bR "sorted" p) [cz (bR "set" E) [e] [] b] [] S)
def FJ(K:et)(x:aQ)(n:O):Prop:=∀B:bZ,B.e->B.d=K->∀(Γ:bT)R d S,Γ.d.lookup x=Y gF->a6 B Γ R d (.q n) (bR x S)
def FF(K:et)(x:aQ)(v:aZ):Prop:=∀B:bZ,B.d=K->∀Γ:bT,Γ.d.lookup x=Y gF->dP B Γ x v
def J2(K:et):ca<|∀y∈sB,FJ K y.1 y.2:=hW sB λy=>nn (y.1==("__debug__":aQ)) λA=>hF (hl (mc y.2) λg=>A6 g eJ λi x=>hl (fA K eO y.1) λo=>gv o eJ λo=>gv o eJ λo=>Rs o eJ λj t e=>eA j i λk=>bp λB b W Γ R d S C=>OR b x C (J W<|az k e) A)<|hl (mc y.2) λg=>JU g eJ λl x=>hl (fA K eO y.1) λo=>gv o eJ λo=>gv o eJ λo=>D5 o eJ λa e=>hl (K.lookup a) λF=>gv F eJ λF=>M2 F eJ λc P T n v k=>fU (c=bq "tuple"/\P=au/\v=#[]) λf=>bn (QO l (cx T)) λQ=>bp λB b W Γ R d S C=>OS (m:=n) b x C (J W e) (by obtain⟨rfl,rfl,rfl⟩:=f;exact J W k) Q A
def Hc(K:et):ca<|∀y∈sl,FF K y.1 y.2:=hW sl λy=>nn (y.1==("__debug__":aQ)) λA=>eA (fA K eO y.1) _ λi=>qi y.1 "__name__" λQ=>eA (pm y.1) _ λb=>bn (p:=(∃e,y.2=cH e)\/∃T,y.2=bq T) (match y.2 with|cH _=>bp<|aK ⟨_,I⟩|bq _=>bp<|a1 ⟨_,I⟩|_=>au) λd=>bp λB W Γ C=>⟨C,J W i,b,Q,A,d⟩
end
section
variable(K:et)(T:hf)(a:O->aU)
mutual
def FH(x:aQ)(f:O):Prop:=fA K eO x=Y (Y<|aN<|a f)/\(x==("__debug__":aQ))=ax/\mF K (aN<|a f)=an
def FG(x:aQ)(o f:O):Prop:=fA K eO x=Y (Y<|aN<|cw o)/\(x==("__debug__":aQ))=ax/\ut K o (a f)
def FK(o:O)(x:aQ)(f:O):Prop:=mQ K o x (a f)/\lg f x=an
def FE(x:aQ)(f:O):Prop:=rQ K (a f) x/\f≠0
def Iw:ca<|∀y∈T.g,FH K a y.1 y.2:=hW T.g λy=>eA (fA K eO y.1) _ λA=>nn (y.1==("__debug__":aQ)) λi=>b5 (mF K<|aN<|a y.2) λQ=>bp<|aP A i Q
def Hx:ca<|∀y∈T.b,FG K a y.1 y.2.1 y.2.2:=hW T.b λy=>eA (fA K eO y.1) _ λA=>nn (y.1==("__debug__":aQ)) λi=>b5 (makesIn K<|cw y.2.1) λQ=>eA (g5 K (aN<|cw y.2.1) "__init__") _ λb=>eA (rv K<|aN<|a y.2.2) _ λd=>b5 (mF K<|aN<|cw y.2.1) λP=>bp<|aP A i ⟨Q,b,d,P⟩
def MK:ca<|∀y∈T.j,FK K a y.1 y.2.1 y.2.2:=hW T.j λy=>eA (g5 K (aN<|cw y.1) "__getattr__") _ λA=>eA (g5 K (aN<|cw y.1) y.2.1) _ λi=>eA (rv K<|aN<|a y.2.2) _ λQ=>b5 (mF K<|aN<|a y.2.2) λb=>b5 (lg y.2.2 y.2.1) λd=>bp ⟨⟨A,i,Q,b⟩,d⟩
def G9:ca<|∀y∈T.h,FE K a y.1 y.2:=hW T.h λy=>eA (Fc K (aN<|a y.2) "__get__") _ λA=>eA (takesIn K<|aN<|a y.2) _ λi=>nn (Fa.contains y.1) λQ=>fU (y.2≠0) λb=>bp ⟨⟨A,i,Q⟩,b⟩
def FQ:Prop:=∀B:bZ,B.e->B.d=K->uA B->uB B->yt B T a
def Ii:ca<|FQ K T a:=bn (KC K) λA=>bn (J2 K) λi=>bn (Hc K) λQ=>bn (Iw K T a) λd=>bn (Hx K T a) λe=>bn (MK K T a) λP=>bn (G9 K T a) λg=>bp λB c W h C=>by subst W;exact⟨c,A,λx n b=>i _ b B c I,λx v b=>Q _ b B I,λx f=>d (x,f),λx o f=>e (x,o,f),λo x f=>P (o,x,f),λx f=>g (x,f),h,C⟩
end
end
section
variable{T:hf}
mutual
def yn(K:et)(a:aU)(r:am)(b:eV):Prop:=∀l,kj K a=Y l->∀v S,∃x X,eR l=[x,X]/\peek K S (nL l ⟨[v],[]⟩)=Y [(x,v),(X,cS r b)]
def HY(T:hf)(K:et)(f:O)(a:aU)(j:bg)(k:U (aQ×O))(r:am)(p:eV):ca<|∀w:hg T,w.a.d=K->w.g f=a->w.b f=Y j->yn K a r p->uv w f:=vN K a k λg b b' c' d' z D E q=>b5 g.closure.isEmpty λF=>hl j.c λl=>ef l eJ λx=>A6 x eJ λi e=>eA i r λG=>fU (j.d=1) λH=>bn (hW (P:=λx:aQ×lM=>x.2≠d4) g.scope.names λx=>fU _ bp) λL=>bn (hW (P:=λx:aQ×O=>x.2=1->(eR g)[1]?=Y x.1) k λx=>fU _ bp) λu=>bn (hW (P:=λx=>g.scope.names.lookup x=Y .local) (eR g) λx=>fU _ bp) λm=>bn ((vx (T:=T) j.b).d ⟨g.scope.names,k⟩ b) λM=>bp λw h n N y e' f' g' h' i' W R c t=>by
 refine bb ?_;intro o;subst h n G;refine aM (rL N t) λs t=>cF (y g (by delta kj;exact J z I) dL ⟨w.a.b,w.a.a.params⟩) λB X C j'=>?_;rw[C]at q u m;refine Hu (M:=B) (p2:=X) w.c.c q z E D (xA.mp F) L e (tok:=p) (λk' v A=>kp_binds (λb Q e=>A _ _<|w.c.c.a b Q e) λS=>?_) (λx a'=>(bE<|u (x,1) (nl a') I).symm) (m B (by simp)) (m X (by simp)) (M w) W R c (bx s H) t
 .refine bb ?_;intro o;refine cF (y g (by delta kj;exact J z I) v S) λl' m' h n=>?_;replace h:=C▸h;cases h;exact n
def QR(K:et)(X:g3)(b:mD)(a e:aU):ca<|∃D f,yG K X b a D f e:=hl b.closure λl=>ef l eJ λg x=>hl b.code λv=>D5 v eJ λf n=>eA g.1 ("__class__":aQ) λp=>fU ((b.params.posonlyargs++b.params.args).head?.map (·.arg)=Y ("self":aQ)) λA=>bn (hl (K.lookup f) λo=>gv o eJ λo=>M0 o eJ λc d h s q=>hl h[2]? λv=>gv v eJ λv=>D6 v eJ λi F R=>b5 ((X.main.file:aQ)==i) λj=>bp<|sI _ _ _<|sI _ _ _<|aP q R j) λk=>bn (hl (K.lookup g.2) λo=>gv o eJ λo=>MZ o eJ λc d v s q=>eA v (Y<|aN<|cw 0) λR=>bp<|sI _ _ _<|az R q) λQ=>bn (hl (clsIn K<|cw 0) λo=>gv o eJ λm q=>eA (alongIn K "__init__" ((m.mro.dropWhile (·!=aN (cw 0))).drop 1)) (Y<|Y<|aN e) λR=>bp<|aF _ q R) λr=>eA (mroIn K (cw 0)<|aN<|cw 0) (Y an) λt=>eA (fA K eO "super") (Y au) λP=>fU (b.scope.names.lookup ("super":aQ)=Y gF) λB=>fU (b.scope.names.lookup ("__class__":aQ)=Y ez) λw=>fU (b.scope.names.lookup ("self":aQ)=Y .local) λu=>nn (X.main.scope.names.lookup ("super":aQ)).isSome λy=>eA (fA K cStatics "thirdparty.any") (Y au) λz=>eA (rv K<|aN e) (Y<|bq "function") λC=>b5 (fnIn K e) λE=>bp ⟨g.2,f,⟨J x<|az p I,n,A,k,Q,r,t,P,B,w,u,y,z,C,E⟩⟩
@[elab_as_elim]def Lk{b:bo->Type}(m:bo)(c:∀m,b m)(k:∀g h N,b (.d (.f<|.P g h) N)):b m:=by induction m using bo.casesOn with|d a N=>exact(by induction a using bo.casesOn with|f e=>exact(by induction e using a5.casesOn with|P g h=>exact k g h N|_=>exact c _)|_=>exact c _)|_=>exact c _
@[elab_as_elim]def G8{P:cC->Type}(e:cC)(d:∀m,P m)(k:∀X a b l c,P (cz (dT (cz (bR "super" X) [] [] a) "__init__" b) l [] c)):P e:=mY e d λg l s c=>dV s (λp=>d _)<|mX g (λp=>d _) λx n b=>dq n (λp=>d _) "__init__"<|mY x (λp=>d _) λy f h a=>dV f (λp=>d _)<|dV h (λp=>d _)<|fe y (λp=>d _) λz X=>dq z (λp=>d _) "super"<|k X a b l c
def QS(T:hf)(K:et)(n:g3)(f:O)(a:aU)(h:bg)(i:U (aQ×O))(o:O)(r:aU):ca<|∀w:hg T,w.a.d=K->w.a.b=n->w.g f=a->w.g o=r->w.b f=Y h->ul K a->(∀Q L N,dH (aO w.b w.n) h.b Q L N->c5 L 0=Y (.b 0))->uv w f:=vN K a i λl v t' u' v' z g y B=>eA l.defaults dL λC=>b5 h.c.isEmpty λD=>fU (h.d=Z (eR l)/\0<Z (eR l)) λj=>bn (hW (P:=λx:aQ×lM=>x.2≠d4) l.scope.names λx=>fU _ bp) λE=>bn (hW (P:=λx=>l.scope.names.lookup x=Y .local) (eR l) λx=>fU _ bp) λF=>fU (i.lookup ("self":aQ)=Y 0) λG=>bn (QR K n l a r) λH=>hi v (λp p=>au) (λN M g=>wM N (λp p=>au) (λe w' g=>G8 e (λp p=>au) (λx' y' S k W g=>hl h.b λm=>Lk m eJ λc A R a'=>eA c o λb'=>bn ((jF T A).d ⟨l.scope.names,i⟩ k) λc'=>b5 (k.all cr) λd'=>fU (Z k<30) λe'=>b5 (S.endLine==W.line) λf'=>bn ((vx (T:=T) R).d ⟨l.scope.names,i⟩ M) λg'=>bp λw h' i' j' k' l' m' n' z' A' Q o' B' p' q' r' t=>by
 refine bb ?_;intro C';subst h' i' j' k' b';refine aM (rL l' t) λs t=>f2 H λD' E' u=>?_;haveI s':o'[0]?=Y (.b 0):=by exact aE (to<|n' _ _ _ t) (λX=>aM X λp q=>q) λX=>aM X λq p=>aA j.2<|kV.mpr<|az j.1<|az s q
 exact Hw (body:=[]) w.c.c w.d B z y g E C (xA.mp D) F a' u G u.g (c' w) d' e' f' (g' w) (m' l (by delta kj;exact J z I)) p' q' r' (bx s j.1) s' t) g) g) g
end
end
mutual
def oH:U<|cQ O:=[#[],#[1],#[2],#[3],#[4],#[1,2],#[1,3],#[1,4],#[2,3],#[2,4],#[3,4],#[1,2,3],#[1,2,4],#[1,3,4],#[2,3,4],#[1,2,3,4]]
def e1(Q:cQ O)(X:ba):SetTable:={mask:=7,place:=Q,dummies:=#[],finger:=0,led:=X,moves:=0,plain:=an}
def sf(Q:cQ O)(v:O)(X:ba):ba:=let p:=E6 Q v;let E:=pf Q p v;Q.contains v||((e1 Q X).freeSlot (v:am)==Y (v,ax)&&a0 ((e1 Q X).put v=(e1 E X,p))&&oH.contains E&&(e1 E X).fits (aX E)&&!(e1 E X).tooFull&&a0 (aX E<=4)&&E.all (λu=>u==v||Q.contains u)&&E.contains v&&Q.all (λu=>E.contains u))
theorem GF:(oH.all λQ=>[1,2,3,4].all λv=>sf Q v an&&sf Q v ax)=an:=by decide+kernel
theorem J1:(oH.all λQ=>a0 (aX Q<=4)&&(e1 Q an).fits (aX Q)&&(e1 Q ax).fits (aX Q)&&Q.all (λu=>a0 (1<=u)&&a0 (u<=4))&&a0 (b0 Q.toList))=an:=by decide+kernel
theorem Ha:(oH.all λQ=>(b2 6).all λk=>a0<|E6 Q (if k=0 then 0 else(Q.getD (k-1) 9)+1)=min k (aX Q))=an:=by decide+kernel
theorem Kn(f:α->β)(R:cQ α)(p:O)(x:α):pf (R.map f) p (f x)=(pf R p x).map f:=by delta pf;simp
def df(Q:cQ O)(D:O->eV):cQ<|am×aZ:=Q.map λv:O=>((v:am),cS v (D v))
def jP(Q:cQ O)(D:O->eV)(H:O)(X:ba):ik:={cls:=bq "set",dict:=au,data:=qY (df Q D) H<|e1 Q X}
theorem iF:aX (df Q D)=aX Q:=Array.size_map ..
end
section
variable{prog:g3}{w:fB}
mutual
theorem Bg{v:O}(h:v<=4):(ga prog w).hash v=v:=qb h I I I I I
structure gb(Q:cQ O):Prop where
 h:oH.contains Q=an
theorem gb.L(h:gb Q)(c:oH.all P=an):P Q=an:=gl.mp c Q (by simpa using h.h)
theorem gb.g(h:gb Q):aX Q<=4/\(∀X,(e1 Q X).fits (aX Q)=an)/\(∀u∈Q,1<=u/\u<=4)/\b0 Q.toList:=by haveI:=h.L J1;simp only[iK,g8,RT]at this;refine bb ?_;intro p;refine aM this λs d=>?_;obtain⟨⟨⟨A,i⟩,a⟩,b⟩:=s;exact bV A (λX=>by induction X<;>assumption) b d
theorem gb.e(h:gb Q)(A:1<=v)(d:v<=4)(f:v∉Q)(X:ba):∃p E,E=pf Q p v/\(e1 Q X).freeSlot v=Y (v,ax)/\(e1 Q X).put v=(e1 E X,p)/\gb E/\(e1 E X).fits (aX E)=an/\(e1 E X).tooFull=ax/\∀u,u∈E↔u∈Q\/u=v:=by
 revert h A d f;revert Q v X;refine@hs _<|jJ @(letI Q:=_;letI v:=_;letI X:=_;(jT ?_:is _ _ _ Q v X));intros;haveI a:=gl.mp (h.L GF) v (by revert A;exact qb d (λh=>aC h ar) (λc=>as) (λc=>as) (λc=>as) λc=>as);haveI b:sf Q v X=an:=by
  refine aM (eS.mp a) λx y=>?_;induction X
  .exact y
  .exact x
 delta sf at b;haveI g:Q.contains v=ax:=by rw[oT];exactλz=>f<|RV.mp z
 rw[g,Ej]at b;simp only[iK,kM,g8,mL,RT,oU,RV]at b;refine aM b λs i=>?_;obtain⟨⟨⟨⟨⟨⟨⟨G,w⟩,m⟩,j⟩,k⟩,q⟩,l⟩,n⟩:=s;exact J9 _ _ I G w ⟨m⟩ j ⟨k,λu=>⟨λz=>(l u z).symm,λz=>aE z (λz=>i u z) λo=>J o n⟩⟩
theorem H2(h:gb Q)(D:O->eV):ElemsOf (ga prog w) (cx (df Q D)):=λe a=>by delta df at a;rw[nA]at a;exact ay (bL.mp a) λv P W=>az W ⟨aF v (ya _ _ _ _) (Bg (h.g.2.2.1 v (by simpa using P)).2).symm,I⟩
end
end
section
variable{prog:g3}{w:fB}{A:cR}{E:aZ->bB->Prop}{s:bB}
mutual
theorem Ik{v:O}(h:v∉Q):(df Q D).toList.findIdx? (λe=>(ga prog w).is v e.2)=au:=by rw[Sp];intro e a;delta df at a;rw[nA]at a;refine ay (bL.mp a) λu b W=>az W (?_:ph (v:am) (cS (u:am)<|D u)=ax);delta ph;haveI:(u:am)≠v:=λz=>h<|az (de z) (by simpa using b);simpa using this
theorem Io{Q:cQ O}(h:v∈Q):∃j,(df Q D).toList.findIdx? (λe=>(ga prog w).is v e.2)=Y j:=by cases q:(df Q D).toList.findIdx? (λe=>(ga prog w).is v e.2)with|some j=>exact⟨j,I⟩|none=>haveI:=Sp.mp q (v,cS v (D v)) (by delta df;exact J nA<|bL.mpr<|aF v (by simpa using h) I);rw[ya]at this;exact aC this ar
theorem NU{Q:cQ O}(h:v∉Q):pf (df Q D) p (v,cS v t)=df (pf Q p v) (aw D v t):=by
 haveI x:df Q D=df Q (aw D v t):=by skip;exact Array.map_congr_left λu a=>J (ji _ _ λz:u=v=>h<|az z a) I
 refine J x ?_;haveI:=Kn (λu:O=>((u:am),cS u (aw D v t u))) Q p v;rw[kH]at this;exact this
theorem GG{S:aU}{d:cQ O}{D:O->eV}{H v:O}{X:ba}{t:eV}{Q:ba->bB->Prop}(x:gb d)(L:1<=v)(g:v<=4)(f:s.heap.get? S=Y (jP d D H X))(h:∀b c a T C,gb a->E3 S (bz s) c->c.get? S=Y (jP a T C X)->(∀u,u∈a↔u∈d\/u=v)->Q b {s with heap:=c}):bc (a7 prog w) A (setAddHashed S (cS v t)<|(ga prog w).hash v) Q E s:=by
 revert prog w A E s S d D H v X t Q;refine@fk _<|eZ @(letI prog:=_;letI w:=_;letI A:=_;letI E:=_;letI s:=_;letI S:=_;letI d:=_;letI D:=_;letI H:=_;letI v:=_;letI X:=_;letI t:=_;letI Q:=_;(e2 ?_:eD _ _ prog w A E s S d D H v X t Q));intros;haveI i:=H2 (prog:=prog) (w:=w) x D;skip;refine eh<|aS<|yi f I (by rw[iF];exact x.g.2.1 X) ?_;dsimp only;refine J (byScan_of I (J iF<|cX x.g.1 as:aX (df d D)<scanBound) i) ?_;skip;skip;refine aS<|aS<|ug<|aS<|wpAny_setScan_of (ya _ _ _ _) f I (by rw[iF];exact x.g.2.1 X) i ?_;refine aE (eo<|v∈d) (λe=>?_) λe=>?_
 .refine bH (Io e) λj m=>J m ?_;skip;exact bC<|bC<|h _ (bz s) d D H x (Us S (bz s)) f λu=>⟨aK,λz=>aE z id λz=>J z e⟩
 .refine J (Ik e) ?_;skip;refine RG (x.e L g e X) λp a n o q k l r P=>?_;haveI y:layNew (e1 d X) (df d D) ((ga prog w).hash v) (cS v t)=(df a<|aw D v t,e1 a X,ax,ax):=by refine J (Bg g) ?_;unfold layNew;refine J o ?_;dsimp only;refine J q ?_;dsimp only;refine J (NU e)<|az n ?_;unfold SetTable.orStandIn;exact J (a9 (by rw[iF];exact l))<|J (by rw[iF];exact l:(e1 a X).fits (df a<|aw D v t).size=true) I
  refine y.symm▸?_;dsimp only;refine aS<|bC<|(I:(e1 a X).plain=an).symm▸?_;skip;refine aS<|J (hashByValue_scannable 8 I)<|bC<|(show plainKind (cS (v:am) t)=an from I).symm▸?_;simp only[↓pp];refine aS<|wpAny_storeSet_of f I (r.symm▸?_)<|J iF<|aH k.g.1 as;skip;refine bC ?_;skip;exact bC<|h _ _ a _ _ k (xX _ _ _) (q5 _ f I) P
end
end
section
variable{prog:g3}{w:fB}{A:cR}{R:ju->bB->Prop}{a:aU}{b wr:U aU}{G:cQ GenState->cQ GenState->Prop}{n:O}{P:O->aZ->Prop}{c:O->bB->Prop}
mutual
def yE(X:ba)(S:aU)(v:O->O)(i:O)(h:j2):Prop:=∃Q D H,gb Q/\h.get? S=Y (jP Q D H X)/\∀u,u∈Q↔∃j,j<i/\v j=u
theorem K0(W:WalksS prog w A.in1 a b wr G n P c)(S:aU)(K:S∉b)(q:O->O)(d':∀d v,P d v->∃t,v=cS (q d) t)(e':∀d,d<n->1<=q d/\q d<=4)(L:ba):∀k d l,n-d=k->d<=n->c d l->yE L S q d (bz l)->(∀X,Moved (S::wr) G l X->yE L S q n (bz X)->R (fJ<|gp dL) X)->f9 (a7 prog w) A (qW "set.update.loop" ⟨[aN S,aN a],[]⟩) R l:=by
 haveI M:=λp=>K<|W.sub _ p;haveI Q:∀m∈wr,m∈S::wr:=λm r=>cm _ r;intro k;induction k with
 |zero=>intro d l C o N y B;obtain rfl:d=n:=((dR [1,0,0,1] [1,1,0,0,1] I I:ap 3 0 [.a .a .i,.a (.e .a .b) .f] (.a .b .f)) C<|cy<|u8 o);exact rz S9<|(EV ES _).symm▸(aS<|W.done l _ _ N λX T=>e5 y λs u a' D m E=>bC<|B X (T.mono Q)<|nb s u a' D (T.heap S _ M m) E)
 |succ k f'=>
  refineλd l C o N y B=>rz S9<|(EV ES _).symm▸(aS<|W.item d l _ _ (va C<|cy<|f4<|o3<|kd C) N λv X g' h' T=>bH (d' d v g') λt i'=>J i'<|e5 y λs u a' D m E=>aS<|eh ?_);skip;refine eh<|aS<|(ga prog w).pyHash (ya _ _ _ _)<|aM (e' d<|va C<|cy<|f4<|o3<|kd C) λj' k'=>GG D j' k' (T.heap S _ M m) λw' x' l' m' n' o' b' p' q'=>bC ⟨TG ES _,f' (d+1) _ (zY C (cy<|f4<|o3<|kd C)<|cy<|zX C<|cy<|f4<|o3<|kd C) (va C<|cy<|f4<|o3<|kd C) (W.frame _ X _ _ h' (cO _) λm r r' F=>(b'.2 m λz:m=S=>K<|z▸r).trans F) (nb l' m' n' o' p' λc'=>?_) λs' t' u'=>B s' (Moved.trans W.gtrans ((T.mono Q).then_heap (cO _) λm r' r F=>(b'.2 m λz:m=S=>r<|z▸bu ..).trans F) t') u'⟩
  .rw[q' c',E c'];constructor
   .rintro(⟨j,H,x⟩|p)
    .exact aF j (er H) x
    .exact aF d (b7 _) p.symm
   .refineλv'=>ay v' λj H x=>?_;rcases f6 j d with p|p
    .exact aK<|aF j p x
    .obtain rfl:j=d:=((dR [1,1] [1,0,1] I I:ap 2 0 [.e .a<|.h .b,.g .b .a] (.a .a .b)) H p);exact a1 x.symm
end
end
section
variable{prog:g3}{w:fB}{A:cR}{E:aZ->bB->Prop}{s:bB}
mutual
theorem NZ(D:O->eV)(X:ba):jP #[] D 0 X={cls:=bq "set",dict:=au,data:=qY #[] 0<|t2 0 0 X}:=by delta jP df;exact J Array.map_empty I
theorem HE(a:aZ){k:aZ->bB->Prop}(h:k (aN (aX s.heap.objs)) {s with heap:=co s.heap {cls:=bq "set",dict:=au,data:=qY #[] 0<|t2 0 0<|!w.params.followText "set-order"}}):f9 (a7 prog w) A (nH (cH "set.__new__") ⟨[bq "set",a],[]⟩) (uf k E) s:=by revert prog w A E s a k;refine@hs _<|e0 @(letI prog:=_;letI w:=_;letI A:=_;letI E:=_;letI s:=_;letI a:=_;letI k:=_;(e3 ?_:eE _ _ _ prog w A E s a k));intros;refine Ff<|aS<|rI (PySem.F.newCall_set_1 a)<|bC ⟨TG Tn _,rz PySem.F.entry_set_new<|(EV Tn _).symm▸?_⟩;delta Builtin.«set.__new__» Ui;haveI b:=PySem.sub_set_self;obtain⟨c,g,d,D,L⟩:=s;skip;wp_walk;refine pn<|bC ?_;dsimp only;skip;exact aS<|wpAny_alloc<|bC<|bC h
def eQ(w:fB):ba:=!w.params.followText "set-order"
def kB(w:fB):ik:={cls:=bq "set",dict:=au,data:=qY #[] 0<|t2 0 0<|eQ w}
structure uz(prog:g3)(w:fB)(T:iW)(l:aU)(o i:ik):Prop where
 a:o.cls=bq T
 b:isSubtype (bq T) (bq "set")=cG ax
 d:isSubtype (bq T) (bq "frozenset")=cG ax
 e:(bq T==bq "dict")=ax
 c:∀(A:cR)(E:aZ->bB->Prop)(s:bB)(Q:aZ->bB->Prop),s.heap.get? l=Y o->Q (aN (aX s.heap.objs)) {s with heap:=co s.heap i}->bc (a7 prog w) A (mI<|aN l) Q E s
set_option maxHeartbeats 3200000 in theorem Ht{T K z:iW}{W:Builtin}{j:U aZ}{Q Q₁:aZ->bB->Prop}(R:TypeCalled T K z)(l:checkTypeCall T ⟨j,[]⟩=cG ())(m:x5 table z=Y W)(B:f9 (a7 prog w) A.in1 (nH (cH K) ⟨bq T::j,[]⟩) (uf Q₁ E) s)(v:∀a b,Q₁ a b->b.TypeIs a T/\(∀{h:cR}{i:aZ->bB->Prop}{d:cI->bB->Prop},d () b->bc (a7 prog w) h (checkBuiltinCall z ⟨a::j,[]⟩) d i b)/\bc (a7 prog w) A.in1.in1 (W ⟨a::j,[]⟩) (λD X=>match D with|pd f=>uf (λr H=>r=dL/\Q a H) E (fJ f) X|.again g=>g.quiet=an/\f9 (a7 prog w) A.in1 g (uf (λr H=>r=dL/\Q a H) E) X) (λe X=>uf (λr H=>r=dL/\Q a H) E (jX e) X) b):bc (a7 prog w) A (e9 (bq T) j) Q E s:=by
 revert prog w A E s T K z W j Q Q₁;refine@hs _ ?_;refine eZ @(letI prog:=_;letI w:=_;letI A:=_;letI E:=_;letI s:=_;letI T:=_;letI K:=_;letI z:=_;letI W:=_;letI j:=_;letI Q:=_;letI Q₁:=_;(e2 ?_:eD _ _ _ prog w A E s T K z W j Q Q₁));intros;refine f2 R.mro λc q t=>?_;haveI u:=R.made;haveI x:=R.sub;refine rE<|Ff ?_;refine bC ⟨Code.quiet_builtin _ (by decide+kernel),rz PySem.F.entry_type_call ?_⟩;refine J (Around.under_plain (weight_type_call_type T j []) I) ?_;haveI y:=R.notType;repeat(any_goals(first|assumption|wp_step))
 refine wpAny_ite_false (by refine J R.canCreate ?_;rfl) ?_;refine aS<|rI l ?_;repeat(any_goals(first|assumption|wp_step))
 refine nN B λr b C=>?_;induction r with
 |error e=>exact C
 |ok L=>
  induction L using E2 with
  |ret a=>
   refine b6 (v _ _ C) λF n N=>?_;haveI G:=R.init.lookup;haveI M:=R.init.bind a;repeat(any_goals(first|assumption|wp_step))
   refine nN (codeAny_call_builtin R.init.plain m<|n N) λo H k=>?_;induction o with|error e=>exact k|ok p=>induction p using E2 with|ret r=>obtain⟨rfl,P⟩:=k;repeat(any_goals(first|assumption|wp_step))|_=>exact be k
  |_=>exact be C
theorem Az{T:iW}{l:aU}{o i:ik}{Good:j2->Prop}{Q:aZ->bB->Prop}(K:uz prog w T l o i)(e:A.handled=au)(f:s.heap.get? l=Y o)(g:∀(B:cR)(R:ju->bB->Prop),B.handled=au->(∀(a:j2)(D:O),Good a->(∀b o,s.heap.get? b=Y o->a.get? b=Y o)->R (fJ<|gp dL) {s with heap:=a,toks:=D})->f9 (a7 prog w) B (qW "set.update.loop" ⟨[aN (aX s.heap.objs),aN (aX (co s.heap<|kB w).objs)],[]⟩) R {s with heap:=co (co s.heap<|kB w) i})(h:∀(a:j2)(D:O),Good a->(∀b o,s.heap.get? b=Y o->a.get? b=Y o)->Q (aN (aX s.heap.objs)) {s with heap:=a,toks:=D}):bc (a7 prog w) A (e9 (bq "set") [aN l]) Q E s:=by revert prog w A E s T l o i Good Q;refine@kx _ ?_;refine eZ @(letI prog:=_;letI w:=_;letI A:=_;letI E:=_;letI s:=_;letI T:=_;letI l:=_;letI o:=_;letI i:=_;letI Good:=_;letI Q:=_;(e2 ?_:eD _ _ _ _ prog w A E s T l o i Good Q));intros;refine Ht (Q₁:=λc d=>c=aN (aX s.heap.objs)/\d={s with heap:=co s.heap<|kB w}) PySem.F.called_set (PySem.F.typeCall_set_1 _) PySem.F.entry_set_init (HE (aN l) ⟨I,I⟩) λc d X=>?_;obtain⟨rfl,rfl⟩:=X;have z:Shared.TypeIs {s with heap:=co s.heap<|kB w} (aN (aX s.heap.objs)) "set":=⟨_,d2 _ I,I⟩;refine⟨z,λM=>check_set_init_1 z M,?_⟩;obtain⟨v,j,k,H⟩:=o;have m:v=bq T:=K.a;subst m;have P:(co s.heap<|kB w).get? l=Y ⟨bq T,j,k,H⟩:=dJ _ f;have p:=K.b;have N:=K.d;have G:=K.e;unfold Builtin.«set.__init__» noKeywords Uk;generalize n:mI=q;wp_walk;subst n;refine K.c _ _ {s with heap:=co s.heap<|kB w} _ P ?_;refine aS<|Fx ?_;refine g _ _ (by simp[e]) λa D x C=>?_;show bc _ _ _ _ _ _;refine bC ?_;show bc _ _ (ret dL) _ _ _;exact bC ⟨I,h _ _ x C⟩
end
end
mutual
theorem MN(v:O->am)(i:O):b0 (mA v i):=by
 induction i with
 |zero=>exact fm
 |succ i d=>
  rw[firstMet_succ];delta step_dedup;split
  .exact d
  .rename_i h;rw[fN];refine aP d (dO.mpr ⟨fO,fm⟩) λa s b c e=>h ?_;rw[b9]at c;exact lF.mpr<|aF a s (by simp[e,c])
theorem MM(v:O->am)(i:O)(k:am):k∈mA v i↔∃j,j<i/\v j=k:=by haveI h:=firstMet_any v i k;rw[nB,Si,Si,qP,qP,bL]at h;exact tC h ⟨λq=>bD q λj q=>aF j (ed.mp q.1) q.2,λq=>bD q λj q=>aF j (ed.mpr q.1) q.2⟩
theorem Ce{K:U am}(x:n=Z K)(k:am):k∈mA (λi=>bS K i 0) n↔k∈K:=J x<|(MM _ _ _).trans ⟨λq=>bD q λj q=>az q.2<|az (xz (h:=q.1) 0)<|kN _,λq=>bD (kO q) λj q=>bD q λa e=>aF j a<|(xz 0).symm.trans e⟩
theorem aY.v(d:aY c y (cS A C)):y=.a A:=by cases d;rfl
theorem Kp(h:bm c l R):∀{a:U am},iU R a->l=a.map V.a:=h.j (P:=λl R=>∀{a:U am},iU R a->l=a.map V.a) (λh=>by cases h;rfl) λv x l R h p d a y=>by cases y with|cons i t y=>exact J h.v<|J (d y) I
theorem ML(h:bm c l R)(y:iU R a)(b:n=Z a):∃d:U V,b0 d/\(∀x,x∈d↔x∈l)/\Z d=Z (mA (λi=>bS a i 0) n):=J (Kp h y) ⟨(mA (λi=>bS a i 0) n).map V.a,iQ.mpr<|(MN _ _).imp λh e=>h<|V.a.inj e,λx=>by rw[bL,bL];exact⟨λq=>bD q λk q=>aF k ((Ce b k).mp q.1) q.2,λq=>bD q λk q=>aF k ((Ce b k).mpr q.1) q.2⟩,bv ..⟩
end
section
variable{B:bZ}{prog:g3}{w:fB}
mutual
theorem Qk:uz prog w "list" l ⟨bq "list",au,c9 T n,#[]⟩ {cls:=bq "list_iterator",data:=fo #[aN l,cS 0 0]}:=⟨I,PySem.F.sub_list_set,PySem.F.sub_list_frozenset,as,λA E s Q z M=>yh (d8 _ z I n I) M⟩
theorem Ql:uz prog w "tuple" l ⟨bq "tuple",au,c9 T n,#[]⟩ {cls:=bq "tuple_iterator",data:=fo #[aN l,cS 0 0]}:=⟨I,by rw[rB];kernel_rfl,by rw[rB];kernel_rfl,as,λA E s Q z M=>TU (d8 _ z I n I) M⟩
theorem Ov{c:cR}{s:bB}{W:aU}{X:cQ aZ}{n:O}{K:U am}{R:ju->bB->Prop}(l:c.handled=au)(d:s.heap.get? W=Y ⟨bq "tuple",au,c9 X n,#[]⟩)(P:iU (cx X) K)(m:aX X<64)(p:∀(a:j2)D,a.SetOf (ga prog w) (aX s.heap.objs) (λG=>(mA (λi=>bS K i 0) (aX X)).any (·==G)) (Z (mA (λi=>bS K i 0) (aX X)))->(∀b o,s.heap.get? b=Y o->a.get? b=Y o)->R (fJ<|gp dL) {s with heap:=a,toks:=D}):f9 (a7 prog w) c (qW "set.update.loop" ⟨[aN (aX s.heap.objs),aN (aX (co s.heap<|kB w).objs)],[]⟩) R {s with heap:=co (co s.heap<|kB w) {cls:=bq "tuple_iterator",data:=fo #[aN W,cS 0 0]}}:=have g:∀b,b<aX s.heap.objs->b≠aX (co s.heap<|kB w).objs:=λb q=>J (q6 _ _)<|bj<|er q;have j:∀(y:ik)b o,s.heap.get? b=Y o->(co (co s.heap<|kB w) y).get? b=Y o:=λy b o e=>dJ _<|dJ _ e;codeAny_set_update_loopS (Walks.tuple (A:=c.in1) l _ W (g _<|d3 d) X).toS _ (λh=>aE (cu.mp h) (J (q6 _ _)<|bj<|b7 _) λh=>gB (d3 d)<|b9.mp h) (λi=>bS K i 0) (λi v r=>P.int_at i v<|J hI r) (ci (xL m) as) (aX X-0) 0 _ (@zm _) (f7 _) ⟨bO _ (d2 _ I) I I,d8 _ (j _ _ _ d) I n I⟩ (SetOf_congr ((setObjOf_fresh (knd:=ga prog w)<|eQ w).setOf (dJ _<|d2 _ I) as) (λ_=>I) I) λk T t=>J (Tu T)<|p (bz k) (cA k) t λb o f=>T.heap b o (λh=>aE (cu.mp h) (bj<|d3 f) λh=>g _ (d3 f)<|b9.mp h)<|j _ _ _ f
set_option tactic.hygienic true in theorem Oo(j:B.e):uA B:=λΓ A L Q a' b' c' d' e' b w s u f' g' h' i' j' k F R h=>by
 refine qU<|nk j F R b.c b.f b.b b.d ?_ b.l;refine xR (o5 (kf j w s u k F R h λW v x y k' z M q=>?_)<|f1 I) (f1 I) I;revert M;refine Nh (G:=λv=>aY W v x->_) q λl' q M=>?_;refine bb ?_;intro m';refine b6 q λC D q=>?_;refine e5 M.n λn' X o' H m f=>?_;subst H;refine bH (Bv f C) λK P=>?_;haveI N:aX X=Z K:=by exact P.length▸(az jk I)
 have E:aX X<64:=by exact az jk<|az f.a D
 refine Az (Good:=λg=>g.SetOf (ga B.b B.a) (aX W.d.heap.objs) (λS=>(mA (λi=>bS K i 0) (aX X)).any (·==S)) (Z (mA (λi=>bS K i 0) (aX X)))) Ql k.a m (λp' q' T c=>Ov T m P E c) λg d e l=>?_;refine RJ e λr' s' t' u' n o p _ _ _ t r=>?_;refine o6<|call_len_set n o p t (by exact J r<|qL (eN.mpr<|cX (firstMet_length_le _ _) E) as)<|bd.i z<|bd.b y (⟨l,I,I⟩:cj W.d {W.d with heap:=g,toks:=d+1+1}) (.a _ _) ?_;exact J r<|q _<|ML f P N
end
end
mutual
theorem oK:Slot "set_iterator" "__next__" "set_iterator.__next__":=.of (owner:="set_iterator") (n:="__next__") (by rw[TK,Tz];kernel_rfl) (by decide+kernel) (by decide+kernel) (by decide+kernel) (by first|exact aK (by decide+kernel)|exact .inr (by decide+kernel)) (by rw[rB];kernel_rfl)
theorem DD:x5 table "set_iterator.__next__"=Y Builtin.«set_iterator.__next__» :=entryFor_of_tree (by kernel_rfl)
theorem DE:Manifest.owners.lookup (String.ofList ['r','o','t','a','r','e','t','i','_','t','e','s'].reverse)=Y Manifest.sig_set_iterator:=by kernel_rfl
theorem DC(a:aZ):rw "set_iterator.__next__" ⟨[a],[]⟩:=by delta rw;refine az (TH (id:="set_iterator.__next__") (n:=['_','_','t','x','e','n','_','_']) (by kernel_rfl) DE) ?_;kernel_rfl
theorem DF:Slot "set_iterator" "__iter__" "set_iterator.__iter__":=.of (owner:="set_iterator") (n:="__iter__") (by rw[TK,Tz];kernel_rfl) (by decide+kernel) (by decide+kernel) (by decide+kernel) (by first|exact aK (by decide+kernel)|exact .inr (by decide+kernel)) (by rw[rB];kernel_rfl)
theorem Qg:x5 table "set_iterator.__iter__"=Y Builtin.«dict_keyiterator.__iter__» :=TB (id':="dict_keyiterator.__iter__") (by kernel_rfl) I (by decide+kernel) (by kernel_rfl)
theorem Qf(a:aZ):rw "set_iterator.__iter__" ⟨[a],[]⟩:=by delta rw;refine az (TH (id:="set_iterator.__iter__") (n:=['_','_','r','e','t','i','_','_']) (by kernel_rfl) DE) ?_;kernel_rfl
theorem Qh:x5 table "set.__iter__"=Y Builtin.«frozenset.__iter__» :=TB (id':="frozenset.__iter__") (by kernel_rfl) I (by decide+kernel) (by kernel_rfl)
theorem H9{α:Type}{l:U α}(h:i<Z l):(l[i]::l.eraseIdx i).Perm l:=by rw[Sn];exact EH.symm.trans<|List.Perm.of_eq (by rw[List.getElem_cons_drop,SK]:l=l.take i++l[i]::l.drop (i+1)).symm
theorem J0{y:O->O}{a:U α}{T:cQ α}{x:α}(h:a[y k%Z a]?=Y x):yc y (n+1) k a T=yc y n (k+1) (a.eraseIdx<|y k%Z a) (T.push x):=bx (by kernel_rfl)<|aW (λo:a3 α=>tQ (motive:=λ_=>cQ α) o T λx=>yc y n (k+1) (a.eraseIdx<|y k%Z a)<|T.push x) h
theorem JZ(y:O->O)(n:O):∀(d:O)(c:U α)(T:cQ α),Z c=n->(yc y n d c T).toList.Perm (cx T++c):=by induction n with|zero=>refineλd c T e=>J (iN.mp e) ?_;rw[dI];exact qO _|succ n i=>refineλd c T e=>J (J0<|cl<|nG _<|kd e)<|(i (d+1) _ _ (by refine J List.length_eraseIdx ?_;simp[(nG _<|kd e:y d%Z c<Z c)];exact(dR [1,1,0,1] [1,0,1,0,1] I I:ap 3 0 [.a .a<|.h .b,.a (.h .f) .a] (.a .f .b)) e<|cy<|(aq [1,0,1] I:ap 2 0 [.a .a<|.h .b] (.g .k .a)) e)).trans ?_;rw[xl,iL];exact List.Perm.append_left _<|H9<|nG _<|kd e
end
section
variable{prog:g3}{w:fB}{A:cR}{E:aZ->bB->Prop}{s:bB}
mutual
def gT(w:fB)(d:aU)(H:O)(a:cQ (am×aZ)):cQ<|am×aZ:=if w.params.followText "set-order"=an then pickOrder (w.params.setOrder d H) a else a
theorem qx:(gT w d ep H).toList.Perm (cx H):=by
 delta gT;split
 .delta pickOrder;exact JZ (w.params.setOrder d ep) (aX H) 0 (cx H) #[]<|jk ..
 .exact qO _
def jQ(w:fB)(Q:cQ O)(i:O):O:=if w.params.followText "set-order"=an then 0 else if i=0 then 0 else Q.getD (i-1) 9+1
structure k5(w:fB)(h:j2)(z d:aU)(Q:cQ O)(H i:O):Prop where
 g:∃o,h.get? z=Y o/\o.cls=bq "set_iterator"/\o.data=fo #[cS (jQ w Q i) 0,cS i 0,aN d,cS (aX Q) 0,cS H 0]
theorem k5.a(h:k5 w (bz s) z d Q H i):s.TypeIs (aN z) "set_iterator":=ch h.g λo b c p=>aF o b c
theorem m3(g:gb Q)(X:ba):(e1 Q X).fits (aX (df Q tk))=an:=J iF<|g.g.2.1 X
theorem Os{d:aU}{a:cQ O}{D:O->eV}{H:O}{Q:aZ->bB->Prop}(g:gb a)(z:s.heap.get? d=Y (jP a D H<|eQ w))(b:Q (aN (aX s.heap.objs)) {s with heap:=co s.heap {cls:=bq "set_iterator",data:=fo #[cS 0 0,cS 0 0,aN d,cS (aX a) 0,cS H 0]}}):bc (a7 prog w) A (mI<|aN d) Q E s:=by
 revert prog w A E s d a D H Q;refine@je _<|eZ @(letI prog:=_;letI w:=_;letI A:=_;letI E:=_;letI s:=_;letI d:=_;letI a:=_;letI D:=_;letI H:=_;letI Q:=_;(e2 ?_:eD _ _ _ _ _ prog w A E s d a D H Q));intros;refine TT ⟨_,z,I⟩ Tp<|rF Tp ⟨_,z,I⟩ Qh ?_<|PySem.F.args_set_iter_1 _;delta Builtin.«frozenset.__iter__» Uj slotArgs;simp only[List.isEmpty_nil,Bool.not_true,nC,↓pp,bind_assoc,List.length_nil,FB];skip;refine aS<|bC ?_;skip;refine aS<|bC<|aS<|aS<|Fy z I (m3 g<|eQ w)<|bC ?_;skip;refine aS<|aS<|yi z I (m3 g<|eQ w) ?_;skip;skip;refine aS<|aS<|pn<|bC<|bC ?_;skip;refine rG (λG=>?_) λp=>?_
 .haveI:(!(a7 prog w).w.params.followText "set-order"&&(!(e1 a<|eQ w).plain&&a0 (aX (df a D)>1)))=an:=G;rw[show(e1 a<|eQ w).plain=an from I]at this;simp at this
 refine aS<|bC<|aS<|wpAny_setEpoch_of z I (m3 g<|eQ w) ?_;skip;exact aS<|Fw<|bC<|Bm _ I "set_iterator" _ ⟨⟨_,d2 _ I,I⟩,oK.lookup,J iF b⟩
theorem Hb(d:gb Q)(h:i<=aX Q)(f:w.params.followText "set-order"=ax):E6 Q (jQ w Q i)=i:=by delta jQ;refine J f ?_;simp only[nC,po];exact J (fa<|gl.mp (d.L Ha) i<|ed.mpr<|(aq [1,1,1] I:ap 2 0 [.g .a .b,.g .b<|.c 4] (.e .a<|.c 6)) h d.g.1)<|(dR [1,1] [1,0,1] I I:ap 2 0 [.a .a .b] (.a .a .b))<|iS<|u8 h
theorem C1{d:aU}{a:cQ O}{D:O->eV}{ep i:O}{Q:a3 (aZ×O)->bB->Prop}(g:gb a)(y:i<=aX a)(z:s.heap.get? d=Y (jP a D ep<|eQ w))(b:Q (((gT w d ep<|df a D)[i]?).map λe=>(e.2,jQ w a (i+1))) s):bc (a7 prog w) A (setNext d (jQ w a i) i ep) Q E s:=by
 revert prog w A E s d a D ep i Q;refine@kx _<|eZ @(letI prog:=_;letI w:=_;letI A:=_;letI E:=_;letI s:=_;letI d:=_;letI a:=_;letI D:=_;letI ep:=_;letI i:=_;letI Q:=_;(e2 ?_:eD _ _ _ _ prog w A E s d a D ep i Q));intros;skip;refine aS<|yi z I (m3 g<|eQ w) ?_;dsimp only;skip;refine aS<|aS<|pn<|bC (?_:bc _ _ (if w.params.followText "set-order"=an then _ else _) _ _ _);cases c:w.params.followText "set-order"with
 |true=>simp only[↓pp,FB,nC];skip;refine aS<|aS<|yi z I (m3 g<|eQ w) ?_;skip;skip;refine aS<|aS<|pn<|bC<|(a9 c).symm▸(aS<|pn<|bC<|bC ?_);delta gT jQ at b;simp only[c,↓pp]at b;delta jQ;simp only[c,↓pp];exact b
 |false=>
  skip;refine rG (λG=>?_) λp=>?_
  .haveI:(!(e1 a<|eQ w).plain&&a0 (aX (df a D)>1))=an:=G;rw[show(e1 a<|eQ w).plain=an from I]at this;simp at this
  refine aS ?_;refine rG (λG=>?_) λp=>?_
  .haveI:=G;rw[show(e1 a<|eQ w).led=an from(by unfold eQ;exact J c I)]at this;simp at this
  refine bC<|bC ?_;have h:gT w d ep (df a D)=df a D:=by delta gT;exact J c I
  rw[h]at b;refine J (Hb g y c) ?_;have x:(df a D)[i]?=(a[i]?).map λv:O=>((v:am),cS v (D v)):=by delta df;exact J Array.getElem?_map I
  rw[x]at b⊢;refine J (show(e1 a<|eQ w).place[i]?=a[i]?from I) ?_;cases f:a[i]?with
  |none=>rw[f]at b;exact b
  |some j=>
   rw[f]at b;haveI k:jQ w a (i+1)=j+1:=by delta jQ;refine J c ?_;simp only[nC,po,Nat.add_sub_cancel,Nat.succ_ne_zero];exact J Array.getD_eq_getD_getElem?<|J f I
   rw[k]at b;exact b
theorem Ou{z d:aU}{c:cQ O}{D:O->eV}{H f:O}{x:aZ}{Q:a3 aZ->bB->Prop}(g:gb c)(m:d≠z)(j:k5 w (bz s) z d c H f)(h:s.heap.get? d=Y (jP c D H<|eQ w))(y:f<aX c)(M:((gT w d H<|df c D)[f]?).map (·.2)=Y x)(k:∀b,k5 w b z d c H (f+1)->E3 z (bz s) b->Q (Y x) {s with heap:=b}):bc (a7 prog w) A (ud<|aN z) Q E s:=by revert x;revert prog w A E s z d c D H f Q;refine@hs _<|eZ @(letI prog:=_;letI w:=_;letI A:=_;letI E:=_;letI s:=_;letI z:=_;letI d:=_;letI c:=_;letI D:=_;letI H:=_;letI f:=_;letI Q:=_;(e2 ?_:eD _ _ _ prog w A E s z d c D H f Q));intros;refine ch (id j.g) λo G l T=>?_;skip;refine aS<|Fs<|Ft (name:=gG "__next__") j.a oK<|rF oK j.a DD (aS<|rI (a:=(aN z,[])) I<|aS<|TO G T<|aS<|Fy h I (m3 (tk:=D) g<|eQ w)<|J iF<|J (bf (by simp))<|aS<|C1 (ep:=H) (i:=f) g (f4 y) h ?_)<|DC _;cases t:(gT w d H<|df c D)[f]?with|none=>rw[t]at M;exact aC M ar|some e=>rw[t]at M;induction(bE M:e.2=x);skip;refine aS<|Fz (i:=0) G T (gD _)<|aS<|Fz (i:=1) (q5 _ G<|E5<|pe T _) (pe T _) (by simp)<|bC ⟨e.2,I,bC<|k _ ⟨_,q5 _ (q5 _ G<|E5<|pe T _)<|E5<|pe (pe T _) _,(Tv ..).trans<|(Tv ..).trans l,?_⟩<|(xX ..).trans<|xX ..⟩;rw[pe<|pe T _];exact I
theorem Oj{z d:aU}{c:cQ O}{D:O->eV}{H:O}{Q:a3 aZ->bB->Prop}(e:A.handled=au)(g:gb c)(j:k5 w (bz s) z d c H (aX c))(f:s.heap.get? d=Y (jP c D H<|eQ w))(h:∀b,Heap.ExtBut z (bz s) b->Q au {s with heap:=b}):bc (a7 prog w) A (ud<|aN z) Q E s:=by
 revert prog w A E s z d c D H Q;refine@kx _<|eZ @(letI prog:=_;letI w:=_;letI A:=_;letI E:=_;letI s:=_;letI z:=_;letI d:=_;letI c:=_;letI D:=_;letI H:=_;letI Q:=_;(e2 ?_:eD _ _ _ _ prog w A E s z d c D H Q));intros;refine ch (id j.g) λo G i T=>?_;haveI t:(gT w d H<|df c D)[(aX c)]?=au:=by rw[Array.getElem?_eq_none_iff,<-jk,fK qx,jk,iF];exact b4 _
 skip;refine aS<|Fs<|Ft j.a oK<|rF oK j.a DD (aS<|rI I<|aS<|TO G T<|aS<|Fy f I (m3 g<|eQ w)<|J iF<|J (bf (by simp))<|aS<|C1 g (b4 _) f<|J t ?_)<|DC _;dsimp only;refine aS<|Fz G T (by simp)<|aS ?_;skip;refine aS<|Fw (aS<|rI (a:=dL) (by first|rfl|(rfl;rfl))<|Fw ?_ (by size_fits)) (by size_fits);dsimp only;refine aS<|wpAny_handled ?_;first|refine e.symm▸?_|rw[e]
 refine aS<|bC<|wpAny_throw ?_;exact aS<|TP (aF _ (d2 _ I) I) isSubtype_stop<|bC<|h _<|((xX ..).extBut.push _).push _
theorem Ol(z:s.TypeIs (aN r) "set")(h:Q ax s):bc (a7 prog w) A (Ul<|aN r) Q E s:=by revert w A E;revert prog s r Q;refine@fk _<|jJ @(letI prog:=_;letI s:=_;letI r:=_;letI Q:=_;(jT ?_:is _ _ prog s r Q));intros;skip;refine aS<|TX z PySem.F.slot_set_len.lookup ?_;generalize n:("set.__len__")=o;wp_delta;refine(by subst n;decide+kernel:splitId o=some ("set","__len__")).symm▸?_;induction n;exact aS<|TP (b:=an) z (by rw[rB];kernel_rfl)<|rG (λG=>aA G as) λp=>rG (λp=>aS<|wpAny_typeOf z<|bC h) λG=>aA (by decide+kernel) G
theorem k5.p(x:k5 w h z d Q H i)(k:∀o,h.get? z=Y o->c.get? z=Y o):k5 w c z d Q H i:=ay x.g λo a b=>⟨o,k o a,b⟩
theorem Ru(q:A.handled=au){f d:aU}{c:cQ O}{D:O->eV}{H:O}(g:gb c)(G:d≠f):Walks prog w A f [f,d] [f] (aX c) (λi v=>((gT w d H<|df c D)[i]?).map (·.2)=Y v) λi h=>k5 w h f d c H i/\h.get? d=Y (jP c D H<|eQ w)where
 sub:=λb j=>by simp at j;simp[j]
 frame:=λm m m N C=>⟨N.1.p λo e=>C f (by simp) o e,C d (by simp) _ N.2⟩
 item:=λi s Q E y N k=>by obtain⟨x,M⟩:∃x,((gT w d H<|df c D)[i]?).map (·.2)=Y x:=(have:i<aX (gT w d H<|df c D):=jk▸(J (fK qx)<|J jk<|iF.symm▸y);J (kL this) ⟨_,I⟩);refine Ou g G N.1 N.2 y M λl r n=>k x l (cA s) M ⟨r,(n.2 d G).trans N.2⟩ λb o j e=>n.extBut b o (λz=>j (by simp[z])) e
 done:=λs Q E N k=>Oj q g N.1 N.2 λl t=>k l (cA s) λb o j e=>t b o (λz=>j (by simp[z])) e
 self:=λi s Q E N k=>TT N.1.a DF<|rF DF N.1.a Qg (bC<|Bm _ I "set_iterator" _ ⟨N.1.a,oK.lookup,k⟩)<|Qf _
theorem Kz{d:aU}{a:cQ O}{D:O->eV}{H:O}(g:gb a):KdlSrc prog w "set" d d (aX a) (λi v=>((gT w d H<|df a D)[i]?).map (·.2)=Y v) λh=>h.get? d=Y (jP a D H<|eQ w)where
 type:=λp T=>aF _ T I
 there:=λp T=>⟨d3 T,d3 T⟩
 keep:=λp p T C=>C d (aK I) _ T
 notList:=by decide
 notTuple:=by decide
 hint:=λp p p p T M=>Ol (aF _ T I) M
 iter:=λA s o T=>fv _ _ (λE Q M=>Os g T M) (Ru o g<|bj<|d3 T) ⟨⟨_,d2 _ I,I,by
  haveI e:jQ w a 0=0:=by unfold jQ;simp
  exact J e I⟩,dJ _ T⟩
theorem On{b:aU}{Q:cQ O}{D:O->eV}{H:O}{c:cQ aZ}(h:ItemsOf (λi v=>((gT w b H<|df Q D)[i]?).map (·.2)=Y v) c (aX Q)):∃a,iU (cx c) a/\a.Perm (Q.toList.map λv:O=>(v:am)):=by
 haveI e:cx c=(gT w b H<|df Q D).toList.map (·.2):=qQ λi=>J fL<|J hI<|J hI<|aE (f6 i (aX Q)) (λy=>haveI A:i<aX c:=J h.1 y;J (kL A) (h.2 i _<|kL A).symm) λy=>J (tA<|J h.1 y)<|J (tA (by rw[show aX (gT w b H<|df Q D)=aX Q from az jk<|J (fK qx)<|J jk<|J iF I];exact y)) I;haveI g:∀l:U<|am×aZ,(∀e∈l,∃t,e.2=cS e.1 t)->iU (l.map (·.2)) (l.map (·.1)):=by intro l f;induction l with|nil=>exact .nil|cons e r j=>exact bH (f e<|bu ..) λt k=>(J k<|qV _ t<|j λx M=>f x<|cm _ M:iU (e.2::_) (e.1::_))
 refine(aF ((gT w b H<|df Q D).toList.map (·.1)) ?_ ?_)
 .refine J e<|g _ λx M=>?_;haveI M:=(qx (w:=w) (d:=b) (ep:=H) (H:=df Q D)).mem_iff.mp M;unfold df at M;replace M:=nA▸M;exact ay (bL.mp M) λv p W=>az W ⟨_,I⟩
 .haveI:=(qx (w:=w) (d:=b) (ep:=H) (H:=df Q D)).map (·.1);unfold df at this⊢;rw[nA,go]at this;exact this
end
end
section
variable{B:bZ}
mutual
theorem Ot(L:B.e):uB B:=λΓ N' O' P' e Q' R' S' T' D g' h' i' U' V' W' X' Y' M P R h=>by
 refine qU<|nk L P R D.c D.f D.b D.d (xR (o5 (kf L g' h' i' M P R h λW v j' Q Z' k' l' q=>dC (bF.a q) λl m' n' aa' q=>hw (Q.e l' m') λS X o' p' G b f=>J p' ?_)<|f1 I) (f1 I) I) D.l;have a':aX X=Z l:=J b.a<|J jk I;have d:∀i v,X[i]?=Y v->∃k:O,∃t,l[i]?=Y (V.a k)/\v=cS k t/\1<=k/\k<=4:=λi v r=>by
  have N:i<Z l:=by
   refine aE (f6 i (Z l)) (λz=>z) λz=>?_
   .rw[tA<|J a' z]at r;exact aC r ar
  refine ch (n' l[i]<|kN N) λk n q' r'=>have b':=J (cl N)<|J n I;ay (b.g b') λab' o s'=>?_;replace o:=r▸hI▸o;refine J (bE o) ?_;obtain⟨t,rfl⟩:=s'.d;exact h3 k t b' I q' r'
 let m:O->O:=λi=>match l[i]?with|Y (.a k)=>bM k|_=>0;have H:∀i v,X[i]?=Y v->(∃t,v=cS (m i:O) t)/\1<=m i/\m i<=4:=λi v r=>dd (d i v r) λk t C E s=>haveI:m i=k:=(J C I:(match l[i]?with|Y (.a k)=>bM k|_=>0)=k);J this ⟨⟨t,E⟩,s⟩;refine Az Qk M.a G (λt' ac' u' v'=>haveI p:=q6 _ _;K0 (Fd (A:=t'.in1) u' _ S (J p<|bj<|er<|d3 G:S≠aX (co W.d.heap {cls:=bq "set",dict:=au,data:=qY #[] 0<|t2 0 0<|eQ B.a}).objs) X).toS _ (J p λh=>aE (cu.mp h) (λh=>aA h<|bj<|b7 _) λh=>aA (b9.mp h)<|gB<|d3 G:aX W.d.heap.objs∉[aX (co W.d.heap {cls:=bq "set",dict:=au,data:=qY #[] 0<|t2 0 0<|eQ B.a}).objs,S]) m (λi v r=>(H i v r).1) (λi N=>(H i _<|kL N).2) (eQ B.a) (aX X-0) 0 _ (@zm _) (f7 _) ⟨bO _ (d2 _ I) I I,d8 _ (dJ _<|dJ _ G) I o' I⟩ (nb (#[]) (λf=>0) 0 ⟨as⟩ (by rw[NZ];exact dJ _<|d2 _ I) λc'=>⟨λh=>aA h (by simp),λw'=>ay w' λj w f=>aA w<|my _⟩) λd' T x'=>J (Tu T)<|v' (bz d') (cA d') x' λy' z' e'=>T.heap y' z' (haveI:=d3 e';J p λh=>aE (cu.mp h) (λh=>aA h<|bj this) λh=>aA (b9.mp h)<|bj<|er this)<|dJ _<|dJ _ e') λA' B' C' n=>?_
 .refine e5 C' λad' ae' af' K D' T=>o6<|haveI f':cj W.d {W.d with heap:=A',toks:=B'}:=⟨n,I,I⟩;c3 (Da (Q.h f') (λag' k=>kdu_collect (Kz K) M.a D' (az j5<|(aq [1,1] I:ap 1 0 [.g .a<|.c 4] (.g .a<|.c 16777216)) K.g.1) λb ah' ai' E' F'=>ay (On F') λG' H' I'=>k _ _ G' ⟨E',I,I⟩ H' I') (by rw[bv,jk];exact u3 K.g.1) λaj' u J'=>?_) (λf f z=>bd.i (k'.i<|a8.h _ f') z) λf f h=>h
  .refine q _ (λj'=>?_) (iQ.mpr<|(u.nodup_iff.mpr<|iQ.mpr<|K.g.2.2.2.imp λh e=>h<|de e).imp λh e=>h<|V.a.inj e)<|iQ.mpr J'
   .rw[bL];constructor
    .rintro⟨i,N,rfl⟩;refine ay (bL.mp<|u.mem_iff.mp N) λc' K' x=>az x<|ay ((T c').mp (by simpa using K')) λj w x=>az x<|dd (d j _<|kL w) λk t C E f=>aM (H j _<|kL w) λy f=>?_;obtain⟨L',s⟩:=y;rw[E]at s;haveI:(k:am)=m j:=by injection s
     exact az this<|dZ C
    .refineλM'=>bb ?_;intro ak';obtain⟨j,w,rfl⟩:=kO M';have F:j<aX X:=J a' w;refine dd (d j _<|kL F) λk t C E f=>aM (H j _<|kL F) λy f=>?_;obtain⟨L',s⟩:=y;rw[E]at s;haveI:(k:am)=m j:=by injection s
     rw[cl w]at C;refine aF k (u.mem_iff.mpr<|bL.mpr ⟨m j,?_,this.symm⟩) (bE C).symm;simpa using((T<|m j).mpr<|aF j F I)
end
end
section
mutual
theorem Ob{R:O->a3 bg}(a:R 21=Y A5.1):∀Q L N,dH (aO R d) B8 Q L N->c5 L 0=Y (.b 0):=λQ L N h=>by
 refine ay (bF.a h) λv P h=>bF.b h λs q h=>?_
 .refine J q ?_;induction d with|zero=>exact be h|succ d=>refine bb ?_;intro c;refine aM (rL a h) λA i=>ay (bF.a i) λw p i=>ay (bF.a i) λz x i=>?_;obtain rfl:z=.b 0:=i.1;exact aE (to x) (λX=>aM X λp n=>n) λX=>aM X λn p=>aA n<|EO.mpr<|Nat.zero_lt_succ _
def GI(K:et):ca<|∀f∈b2 80,f=1\/f=38\/∀c,p1[f]?=Y c->yO qG K f (gM f) c.1:=hW (b2 80) λf=>hF (eA f 1 λh=>bp<|aK h)<|hF (eA f 38 λh=>bp<|a1<|aK h)<|hl p1[f]? λo=>gv o eJ λc e=>bn (Nz qG K f (gM f) c.1 c.2.2) λh=>bp (a1 (a1 λa k=>by rw[e]at k;exact az (bE k) h))
def xa(K:j3->et)(P:j3):eV:=match(kj (K P)<|gM 1).bind λl=>peek (K P) ⟨lL.prog,P⟩ (nL l ⟨[dL],[]⟩)with|Y [_,(_,cS _ t)]=>t|_=>0
structure yw(K:j3->et):Prop where
 a(P:j3):(Ii (K P) qG gM).isSome=an
 d(P:j3):(GI<|K P).isSome=an
 c(P:j3):(HY qG (K P) 1 (gM 1) vP.1 vP.2.2 1000000000000<|xa K P).isSome=an
 b(P:j3):(QS qG (K P) lL.prog 38 (gM 38) vQ.1 vQ.2.2 21<|gM 21).isSome=an
 e(P:j3)(D:O->aZ):((b2 80).map λf=>if f=1 then au else(kj (K P)<|gM f).map λl=>nL l ⟨(b2 (Z (eR l))).map D,[]⟩)=(b2 80).map λf=>if f=1 then au else(kj (K P)<|gM f).map λl=>cG ((eR l).zip<|(b2 (Z (eR l))).map D)
 g(P:j3)(v:aZ)(S:Setting):((kj (K P)<|gM 1).map λl=>(eR l,peek (K P) S (nL l ⟨[v],[]⟩)))=Y ([("self":aQ),("limit":aQ)],Y [(("self":aQ),v),(("limit":aQ),cS 1000000000000 (xa K P))])
 h(P:j3):(fA (K P) eO (gG "law")==Y (Y<|aN 759))=an
end
variable{K:j3->et}(H:yw K)
include H
mutual
theorem Aw(h:f<80)(A:f≠1):ul (K P)<|gM f:=λl e a x=>by
 haveI:=List.map_inj_left.mp (H.e P λi=>bS a i dL) f<|ed.mpr h;rw[bf A,bf A,e]at this;haveI b:(b2 (Z (eR l))).map (λi=>bS a i dL)=a:=by refine List.ext_getElem (by simp[x]) λi A c=>?_;simp[ih,c]
 haveI:nL l ⟨(b2 (Z (eR l))).map λi=>bS a i dL,[]⟩=cG ((eR l).zip<|(b2 (Z (eR l))).map λi=>bS a i dL):=bE this;rwa[b]at this
theorem Ax:yn (K P) (gM 1) 1000000000000<|xa K P:=λl e v S=>by haveI:=H.g P v S;rw[e]at this;exact aM (tS<|bE this) λA i=>⟨_,_,A,i⟩
omit H in theorem Iy{f:O}{a:bg}(h:a2 f=Y a):f<80:=by
 unfold a2 at h;refine aE (f6 f 80) (λq=>?_) λq=>?_
 .exact q
 .haveI:p1[f]?=au:=gX (by exact q);rw[this]at h;exact aC h ar
theorem OC(W:B.d=K P)(j:B.b=lL.prog)(k:B.e)(l:uA B)(C:uB B):∀d,i4 B a2 d gM:=by
 have M:=qp (H.a P) B k W l C;intro d;induction d with
 |zero=>exactλf A c Q m n a R b h=>be h
 |succ d g=>
  refineλf A c Q m n a R b h=>bb ?_;intro s;refine ay (bF.a h) λt e u=>?_;have T:=Iy e;rcases qp (H.d P) f (ed.mpr T)with rfl|rfl|o
  .exact qp (H.c P) ⟨B,a2,d,gM,M,g⟩ W I I (Ax H) a R b h
  .exact qp (H.b P) ⟨B,a2,d,gM,M,g⟩ W j I I I (Aw H T as) (Ob I) a R b h
  .by_cases i:f=1
   .subst i;exact qp (H.c P) ⟨B,a2,d,gM,M,g⟩ W I I (Ax H) a R b h
   refine ay (tR.mp e) λp q r=>?_;subst r;exact o p q ⟨B,a2,d,gM,M,g⟩ W I e (Aw H T i) a R b h
end
end
mutual
structure dw where
 a:iW
 b:U am
 i:U am
 d:V
def aD(l:U am):U V:=l.map V.a
def dw.q(a:dw):V:=.g [.p a.a,.g<|aD a.b,.g<|aD a.i,a.d]
def dw.c:dw:=⟨"",[],[],.z⟩
def ia:a3 am->V|au=>.z|Y i=>.a i
inductive b1 where|f|l(v:V)|m(a:O)(b:O->am)|d(a:O)(b:O->ba)|p(a:O)(b:O->a3 am)|o(e:U am)|c(e:U V)|i(e:U dw)|n(a:O)(b:O->U am)
def b1.ctorIdx(a:b1):O:=a.casesOn 0 (λ_=>1) (λ_ _=>2) (λ_ _=>3) (λ_ _=>4) (λ_=>5) (λ_=>6) (λ_=>7) λ_ _=>8
def b1.g:b1->U V|.m a b=>(b2 a).map λe=>V.a<|b e|.d a b=>(b2 a).map λe=>V.h<|b e|.p a b=>(b2 a).map λe=>ia<|b e|.o h=>aD h|.c h=>h|.i h=>h.map dw.q|_=>[]
def b1.j:b1->cd|.f=>.n|.l v=>.e v|.n b g=>.a<|(b2 b).map λh=>aD<|g h|x=>.c x.g
def b1.a:b1->ba|.f|.l _|.n _ _=>ax|_=>an
def b1.k:b1->O|.m b _|.d b _|.p b _|.n b _=>b|.o a=>Z a|.c a=>Z a|.i a=>Z a|_=>0
def b1.b(j:O):b1->V|.m _ e=>.a<|e j|.d _ e=>.h<|e j|.p _ e=>ia<|e j|.o g=>.a<|bS g j 0|.c g=>bS g j .z|.i g=>(bS g j dw.c).q|_=>.z
def V.q(v:V)(f:am->b1):a3 b1:=match v with|.a i=>Y<|f i|_=>au
def V.v(c:V)(f:ba->b1):a3 b1:=match c with|.h i=>Y<|f i|_=>au
def V.y(v:V)(f:a3 am->b1):a3 b1:=match v with|.a i=>Y<|f<|Y i|.z=>Y<|f au|_=>au
def b1.q(x:b1)(v:V):a3 b1:=match x with|.m a b=>v.q λx=>.m (a+1)<|aw b a x|.d a b=>v.v λx=>.d (a+1)<|aw b a x|.p a b=>v.y λx=>.p (a+1)<|aw b a x|.o e=>v.q λx=>.o<|e++[x]|.c e=>Y<|.c<|e++[v]|_=>au
def b1.e(j:O)(x:b1)(v:V):a3 b1:=match x with|.m a b=>v.q λx=>.m a<|aw b j x|.d a b=>v.v λx=>.d a<|aw b j x|.p a b=>v.q λx=>.p a<|aw b j<|Y x|.o g=>v.q λx=>.o<|g.set j x|.c g=>Y<|.c<|g.set j v|_=>au
structure b3 where
 b:O->am
 e:O->am
 j:O->am
 h:O->am
 a:U am
 f:U am
 g:am
structure dn where
 b:O
 e:O
 j:O
 h:O
 o:O
 k:O
 f:O
 q:O
 d:O
 c:O
 a:O
 g:O
 i:O
 l:O
structure rP where
 o:O->am
 i:O->ba
 l:O->am
 a:am
 b:am
structure ej where
 d:O->am
 c:O->am
 a:U am
 b:am
structure dD where
 l:U dw
 b:am
 q:O->a3 am
 a:am
structure aB where
 b:b3
 d:dn
 j:rP
 c:ej
 e:dD
 k:O->U am
 a:O->U am
 g:O->am
 f:O->ba
 p:ba
 s:a3 am
 n:U V
 r:a3 am
 A:am
def aB.G(s:aB):U b1:=[.l .z,.m s.d.b s.b.b,.m s.d.e s.b.e,.m s.d.j s.b.j,.m s.d.h s.b.h,.m s.d.o s.j.o,.n s.d.k s.k,.l<|.b 1,.o s.b.a,.o s.b.f,.l<|.a s.b.g,.l<|.a 0,.n s.d.a s.a,.m s.d.g s.g,.d s.d.i s.j.i,.m s.d.l s.j.l,.l<|.a s.j.a,.l<|.b 2,.d s.d.f s.f,.p s.d.q s.e.q,.l<|.a s.e.a,.l<|.h s.p,.l<|ia s.s,.l<|.g s.n,.l<|ia s.r,.l<|.a 0,.l<|.a s.A,.l<|.a s.j.b]
def aB.H(s:aB):U b1:=[.f,.f,.f,.f,.f,.f,.f,.o s.c.a,.f,.f,.f,.f,.f,.f,.f,.f,.f,.f,.f,.f,.f,.f,.f,.f,.f,.f,.f,.f,.l<|.a 1000000000000,.l<|.a s.c.b,.m s.d.d s.c.d,.m s.d.c s.c.c]
def aB.K(s:aB):U b1:=[.f,.f,.f,.f,.f,.f,.f,.f,.f,.f,.f,.f,.f,.i s.e.l,.f,.f,.f,.f,.f,.f,.f,.f,.f,.f,.f,.f,.f,.f,.f,.f,.f,.f,.c [.a 0],.l<|.a s.e.b]
def aB.l(s:aB):U<|U b1:=[s.G,s.H,s.K]
def gR(t:U (U b1))(o a:O):b1:=(((t[o]?).getD [])[a]?).getD .f
def f0(t:U (U b1))(o a:O)(x:b1):U<|U b1:=t.set o<|((t[o]?).getD []).set a x
def aB.m(s:aB)(o a:O):b1:=gR s.l o a
def oe(s:aB)(o a:O):cd:=(s.m o a).j
structure aJ where
 e:cN->O
 a:O->a3 b8
 d:O
 m:O->a3 (U am)
def aJ.b(c:aJ)(x:b8):aJ:={c with a:=aw c.a c.d<|Y x,d:=c.d+1}
def aL(s:aB)(c:aJ):av:=⟨oe s,λo=>e6 o 3,c.e,c.a,c.d,c.m⟩
abbrev br:=V->aB->aJ->Prop
abbrev eX:=dk->U V->aB->aJ->Prop
abbrev ft:=U V->aB->aJ->Prop
def bJ(K:br):V->av->Prop:=λv N=>∃s c,N=aL s c/\K v s c
def d5(j:am)(m:O):Prop:=0<=j/\j<m/\m<=16777216
theorem KW(h:gR t o a=x)(M:x≠.f):∃l,t[o]?=Y l/\l[a]?=Y x:=by delta gR at h;cases e:t[o]?with|none=>rw[e]at h;exact aA h.symm M|some l=>replace h:=e▸h;cases k:l[a]?with|none=>simp[k]at h;exact aA h.symm M|some y=>simp[k]at h;exact aF l I (by rw[h]at k;exact k)
theorem KV(x:b1)(h:gR t o a≠.f)(y b:O):gR (f0 t o a x) y b=if y=o/\b=a then x else gR t y b:=by
 refine ay (KW I h) λl A i=>?_;delta gR f0;refine J A ?_;by_cases e:y=o
 .subst e;have c:y<Z t:=by
   refine aE (f6 y (Z t)) (λh=>h) λh=>?_
   .simp[gX h]at A
  haveI s:a<Z l:=by
   refine aE (f6 a (Z l)) (λh=>h) λh=>?_
   .simp[gX h]at i
  simp only[jp c,Option.getD_some,true_and];by_cases k:b=a
  .refine J k ?_;simp[jp s]
  .simp[k,jo (f8 k),A]
 .simp[e,jo (f8 e)]
theorem lf(h:X.l=f0 s.l o a x)(c:s.m o a≠.f):oe X=dh (oe s) o a x.j:=by
 funext y b;refine(?_:(gR X.l y b).j=_);rw[h,KV x c];delta dh;by_cases e:y=o/\b=a
 .simp only[e,and_self,↓pp]
 .simp only[e,↓pp];rfl
theorem nu{α:Type}{g:O->α}(h:j<m):((b2 m).map g)[j]?=Y (g j):=J fL<|J (o0 h) I
theorem wc{α:Type}{l:U α}{g:α->V}{d:α}(h:j<Z l):(l.map g)[j]?=Y (g<|bS l j d):=by rw[fL,cl h,<-xz d];rfl
theorem vF{x:b1}(h:x.a=an)(s:j<x.k):x.g[j]?=Y (x.b j):=by induction x with|m a f=>exact nu s|d a f=>exact nu s|p a f=>exact nu s|o l=>exact wc s|c l=>exact(cl s).trans<|aW Y<|xz _|i l=>exact wc s|_=>exact aC h ar
theorem jH{x:b1}(h:x.a=an):Z x.g=x.k:=by induction x with|m a f=>exact(bv ..).trans<|ec ..|d a f=>exact(bv ..).trans<|ec ..|p a f=>exact(bv ..).trans<|ec ..|o l=>exact bv ..|c l=>rfl|i l=>exact bv ..|_=>exact aC h ar
theorem wH(m:O)(f:O->α)(g:α->V)(x:α):(b2<|m+1).map (λi=>g<|aw f m x i)=(b2 m).map (λi=>g<|f i)++[g x]:=by
 refine J SG<|J dY ?_;congr 1
 .apply kQ;intro i y;rw[ed]at y;simp[aw,bj y]
 .simp[aw]
theorem wI(m j:O)(f:O->α)(g:α->V)(x:α):(b2 m).map (λi=>g<|aw f j x i)=((b2 m).map λi=>g<|f i).set j (g x):=by
 apply qQ;intro i;by_cases h:j=i
 .subst h;by_cases s:j<m
  .simp[xy,s,aw]
  .simp[xy,s]
 .refine J (jo h) ?_;by_cases y:i<m
  .simp[y,aw,f8 h]
  .simp[y]
theorem qq{P:V->b1->Prop}(h:v.q f=Y b)(k:∀i,P (.a i) (f i)):P v b:=by induction v using V.casesOn<;>first|exact bE h▸k _|exact aC h ar
theorem CB{P:V->b1->Prop}(b:v.v f=Y a)(k:∀i,P (.h i) (f i)):P v a:=by induction v using V.casesOn<;>first|exact bE b▸k _|exact aC b ar
theorem Ni{P:V->b1->Prop}(h:v.y f=Y a)(k:∀i,P (ia i) (f i)):P v a:=by induction v using V.casesOn<;>first|exact bE h▸k au|exact bE h▸k (Y _)|exact aC h ar
theorem GQ{x k:b1}(h:x.q v=Y k):x.a=an/\k.a=an/\k.g=x.g++[v]:=by induction x with|m a b=>exact qq (P:=λv k=>_/\k.a=an/\k.g=_++[v]) h λi=>aP I I<|wH a b V.a i|d a b=>exact CB (P:=λv k=>_/\k.a=an/\k.g=_++[v]) h λi=>aP I I<|wH a b V.h i|p a b=>exact Ni (f:=λx=>.p (a+1)<|aw b a x) (P:=λv k=>_/\k.a=an/\k.g=_++[v]) h λi=>aP I I<|wH a b ia i|o l=>exact qq (P:=λv k=>_/\k.a=an/\k.g=_++[v]) h λi=>aP I I<|dY ..|c l=>exact az (bE h)<|aP I I I|_=>exact aC h ar
theorem Oi{x k:b1}(h:x.e j v=Y k):x.a=an/\k.a=an/\k.g=x.g.set j v:=by induction x with|m a f=>exact qq (P:=λv k=>_/\k.a=an/\k.g=xI _ j v) h λi=>aP I I<|wI a j f V.a i|d a f=>exact CB (P:=λv k=>_/\k.a=an/\k.g=xI _ j v) h λi=>aP I I<|wI a j f V.h i|p a f=>exact qq (P:=λv k=>_/\k.a=an/\k.g=xI _ j v) h λi=>aP I I<|wI a j f ia<|Y i|o l=>exact qq (P:=λv k=>_/\k.a=an/\k.g=xI _ j v) h λi=>aP I I<|SD ..|c l=>exact az (bE h)<|aP I I I|_=>exact aC h ar
theorem lh{x:b1}(h:x.a=an):x.j=.c x.g:=by induction x<;>first|rfl|exact aC h ar
def b1.r(x:b1)(a:O->(O->U am)->Prop)(A:Prop):Prop:=match x with|.n b g=>a b g|_=>A
def b1.t(x:b1)(r:V)(j:O):V:=match x with|.n _ _=>r|x=>x.b j
theorem Kv{x:b1}(h:x.a=an):x.t r j=x.b j:=by induction x<;>first|rfl|exact aC h ar
theorem b1.h(x:b1){P:Prop}(A:x.a=an->P)(a:∀v w,x=.n v w->P)(Q:x.k=0->P):P:=by induction x<;>first|exact A I|exact a _ _ I|exact Q I
def b1.u(x:b1)(K:b1->Prop):Prop:=match x with|.f=>bW|.l _=>bW|x=>K x
theorem oA{x:b1}{A P:Prop}(h:x.r f A)(k:∀m g,x=.n m g->f m g->P)(G:A->P):P:=by induction x<;>first|exact k _ _ I h|exact G h
theorem Nb{K:b1->Prop}{P:Prop}(h:x.u K)(k:x.a=an->K x->P)(G:∀m g,x=.n m g->K x->P):P:=by induction x<;>first|exact G _ _ I h|exact k I h|exact be h
instance:d0 b3:=⟨⟨dt,dt,dt,dt,[],[],0⟩⟩
instance:d0 dD:=⟨⟨[],0,dt,0⟩⟩
instance:d0 ej:=⟨⟨dt,dt,[],0⟩⟩
instance:d0 aB:=(rJ:d0 b3).elim λt=>(rJ:d0 dD).elim λp=>(rJ:d0 ej).elim λh=>⟨⟨t,⟨0,0,0,0,0,0,0,0,0,0,0,0,0,0⟩,⟨dt,dt,dt,0,0⟩,h,p,dt,dt,dt,dt,an,au,[],au,0⟩⟩
instance:d0 aJ:=⟨⟨dt,λp=>au,0,dt⟩⟩
def od(d:U (am×V))(j:am)(x:V):U<|am×V:=if d.any (λp=>p.1==j)then d.map (λp=>if p.1=j then(p.1,x)else p)else d++[(j,x)]
def V.r(v:V)(f:O->Prop):Prop:=match v with|.e c=>f c|_=>bW
def gy(s:aB)(c:aJ)(v:V)(K:b1->Prop):Prop:=match v with|.j (.b d h) g=>g=c.e (.b d h)/\(s.m d h).u K|.j (.a d h i) g=>g=c.e (.a d h i)/\(s.m d h).r (λm f=>i<m/\K (.o<|f i)) bW|.e k=>∃x:b1,c.a k=Y (.e x.g)/\x.a=an/\K x|_=>bW
def l7(F:o9)(x y:V)(K:br)(s:aB)(c:aJ):Prop:=match F with|cB=>(match x,y with|.a i,.a j=>K (.h<|a0<|i=j) s c|x,y=>gP x y/\K (.h<|a0<|x=y) s c)|dj=>(match x,y with|.a i,.a j=>K (.h<|a0<|i≠j) s c|x,y=>gP x y/\K (.h<|a0<|x≠y) s c)|g0=>x.c λi=>y.c λj=>K (.h<|a0<|i<j) s c|pa=>x.c λi=>y.c λj=>K (.h<|a0<|i<=j) s c|d1=>x.c λi=>y.c λj=>K (.h<|a0<|j<i) s c|ij=>x.c λi=>y.c λj=>K (.h<|a0<|j<=i) s c|fp=>∃l,(aL s c).u y=Y l/\mf (aL s c) y l x/\K (.h<|a0<|x∈l) s c|mC=>∃l,(aL s c).u y=Y l/\mf (aL s c) y l x/\K (.h<|a0<|x∉l) s c
def vr(F:xY)(x y:V)(K:br)(s:aB)(c:aJ):Prop:=match F with|cY=>(match x,y with|.a i,.a j=>K (.a<|i+j) s c|.g d,.g b=>Z d+Z b<=bi/\K (.g<|d++b) s c|.e k,.e G=>∃d b,c.a k=Y (.e d)/\c.a G=Y (.e b)/\Z d+Z b<=bi/\K (.e c.d) s (c.b<|.e<|d++b)|_,_=>bW)|dK=>x.c λi=>y.c λj=>K (.a<|i-j) s c|lN=>x.c λi=>y.c λj=>ao i<2^60/\K (.a<|i*j) s c|g4=>x.c λi=>y.c λj=>(0<j/\j<1073741824)/\K (.a<|i/j) s c|hL=>x.c λi=>y.c λj=>0<j/\K (.a<|i%j) s c
def nc(v:V)(d:am)(K:br)(s:aB)(c:aJ):Prop:=match v with|.g l=>0<=d/\d<2^62/\∃p,l[(bM d)]?=Y p/\K p s c|.j (.b o h) n=>n=c.e (.b o h)/\d5 d (s.m o h).k/\K ((s.m o h).t (.j (.a o h (bM d))<|c.e<|.a o h (bM d)) (bM d)) s c|.j (.a o h i) n=>n=c.e (.a o h i)/\(s.m o h).r (λm f=>i<m/\d5 d (Z (f i))/\K (.a<|bS (f i) (bM d) 0) s c) bW|.e q=>∃x:b1,c.a q=Y (.e x.g)/\x.a=an/\((d5 d x.k/\K (x.b (bM d)) s c)\/(d=-1/\0<x.k/\x.k<=16777216/\K (x.b<|x.k-1) s c))|_=>bW
def ql:V->ba|.z=>an|_=>ax
def mb(s:aB)(c:aJ)(o a:O)(K:V->Prop):Prop:=match s.m o a with|.f=>bW|.l .d=>bW|.l v=>K v|_=>K<|.j (.b o a)<|c.e<|.b o a
def lt(o:O)(v:V)(P:Prop):Prop:=match v with|.b y=>(match jr y o with|an=>P|ax=>bW)|_=>bW
def AZ(f:O)(A P:Prop):Prop:=match f with|0=>A/\P|_+1=>P
def sh(v x:V)(K:br)(s:aB)(c:aJ):Prop:=match v with|.j (.b o d) t=>t=c.e (.b o d)/\(s.m o d).r (λm f=>m<bi/\∃(h:O)(l:U am)(X:aB),x=.e h/\c.a h=Y (.e<|aD l)/\X.l=f0 s.l o d (.n (m+1)<|aw f m l)/\K .z X {c with e:=ff c.e<|.a o d m,a:=aw c.a h au}) ((s.m o d).k<bi/\x.f/\oB ((s.m o d).q x) (∃(p:b1)(X:aB),(s.m o d).a=an/\p.a=an/\p.g=(s.m o d).g++[x]/\X.l=f0 s.l o d p/\K .z X c) λp=>∃X:aB,X.l=f0 s.l o d p/\K .z X c)|.j (.a o d i) t=>t=c.e (.a o d i)/\(s.m o d).r (λm f=>x.c λx=>i<m/\Z (f i)<bi/\∃X:aB,X.l=f0 s.l o d (.n m<|aw f i<|f i++[x])/\K .z X c) bW|.e h=>∃l,c.a h=Y (.e l)/\Z l<bi/\x.f/\K .z s {c with a:=aw c.a h<|Y<|.e<|l++[x]}|_=>bW
def CZ(t:a3 O)(v:V)(h:am)(x:V)(K:ft)(L:U V)(s:aB)(c:aJ):Prop:=match v with|.j (.b o p) g=>g=c.e (.b o p)/\(s.m o p).r (λm f=>x.r λq=>(0<=h/\h<m/\m<=bi)/\∃(l:U am)(X:aB),c.a q=Y (.e<|aD l)/\X.l=f0 s.l o p (.n m<|aw f (bM h) l)/\K (jc t x (.j (.a o p (bM h))<|c.e (.a o p (bM h))+1) L) X {c with e:=ff c.e<|.a o p (bM h),a:=aw c.a q au}) ((0<=h/\h<(s.m o p).k/\(s.m o p).k<=bi)/\x.f/\bF ((s.m o p).e (bM h) x) λu=>∃X:aB,X.l=f0 s.l o p u/\K L X c)|.j (.a o p i) g=>g=c.e (.a o p i)/\(s.m o p).r (λm f=>x.c λx=>i<m/\(0<=h/\h<Z (f i)/\Z (f i)<=bi)/\∃X:aB,X.l=f0 s.l o p (.n m<|aw f i<|(f i).set (bM h) x)/\K L X c) bW|.e q=>x.f/\h<2^62/\∃d,c.a q=Y (.b d)/\Z d<bi/\K L s {c with a:=aw c.a q<|Y<|.b<|od d h x}|_=>bW
def wN(h:a3 O)(o f:O)(v:V)(K:ft)(L:U V)(s:aB)(c:aJ):Prop:=match v with|.e g=>(match mm o f with|an=>bW|ax=>∃(y:b1)(X:aB),c.a g=Y (.e y.g)/\dA y.g/\y.a=an/\X.l=f0 s.l o f y/\K (jc h v (.j (.b o f)<|c.e (.b o f)+1) L) X {c with e:=dz c.e o f,a:=aw c.a g au})|.d=>bW|.j _ _=>bW|.k _=>bW|v=>∃X:aB,X.l=f0 s.l o f (.l v)/\K L X {c with e:=dz c.e o f}
def ho(G:V)(s:aB)(c:aJ)(R:U V):Prop:=∀i,(aL s c).q G i=Y R[i]?
def lA(i:O)(v:V)(L:U V)(P:U V->Prop):Prop:=match e6 i (Z L)with|an=>(match v with|.d=>bW|v=>P<|L.set i v)|ax=>bW
def sQ(l:U V)(P:Prop):Prop:=match EI (Z l) bi with|an=>P|ax=>bW
def k2(L:U V)(i:O)(P:V->Prop):Prop:=match L[i]?with|Y .d=>bW|Y v=>P v|au=>bW
def wm(v:V)(P:V->Prop):Prop:=match v with|.d=>bW|v=>P v
def V.w(v:V)(f:O->O->O->Prop):Prop:=match v with|.j (.b o c) i=>f o c i|_=>bW
def b1.s(x:b1)(a:U am->Prop):Prop:=match x with|.o b=>a b|_=>bW
def h5(P Q:aB->aJ->Prop):br:=λv s c=>v.l λr=>(r=an->P s c)/\(r=ax->Q s c)
def mi(P:am->aB->aJ->Prop):br:=λv s c=>v.c λi=>P i s c
def T2(P:U V->aB->aJ->Prop):br:=λv s c=>v.i λl=>P l s c
def Kx(K:br):br:=λv s c=>v.n (λl=>Z l<=bi/\K (.a (Z l)) s c)<|gy s c v λx=>x.k<=bi/\K (.a x.k) s c
def BI(K:br):br:=λv s c=>v.n (λl=>K (.g l) s c)<|gy s c v λx=>x.a=an/\dA x.g/\x.k<=bi/\K (.g x.g) s c
inductive uq(G:V)(B:V->ft->ft)(Q:ft)(L:U V)(s:aB)(c:aJ):Prop|mk(α:Type)(l:U α)(g:α->V)(z:U α->ft)(A:∀p L s c,z p L s c->ho G s c (l.map g))(i:z [] L s c)(a:∀p x r L s c,l=p++x::r->z p L s c->B (g x) (z<|p++[x]) L s c)(b:∀L s c,z l L s c->Q L s c):uq G B Q L s c
inductive l0(B:(O->ft)->O->ft)(L:U V)(s:aB)(c:aJ):Prop|mk(z:O->ft)(k:O)(A:z k L s c)(i:∀n L s c,z n L s c->B z n L s c):l0 B L s c
inductive gH(G:V)(i:O)(B:U V->br->(aB->aJ->Prop)->aB->aJ->Prop)(K:br)(L:U V)(s:aB)(c:aJ):Prop|mk(α:Type)(l:U α)(g:α->V)(z:U α->U V->aB->aJ->Prop)(q:e6 i (Z L)=an)(A:∀p a s c,z p a s c->ho G s c (l.map g)/\Z a<bi)(b:z [] [] s c)(Q:∀p x r a s c,l=p++x::r->z p a s c->wm (g x) λv=>B (L.set i v) (λy=>z (p++[x])<|a++[y]) (z (p++[x]) a) s c)(d:∀a s c,z l a s c->K (.e c.d) s (c.b<|.e a)):gH G i B K L s c
def xc(F:E7)(v:V)(K:br)(f:aB)(c:aJ):Prop:=match F with|rp=>v.c λj=>K (.a<|-j) f c|ro=>K (.h<|ql v) f c|rg=>K (.h<|!ql v) f c|rs=>gy f c v λx=>x.a=an/\x.k<=bi/\K (.h<|a0<|x.k=0) f c|rf=>v.l λq=>K (.h<|!q) f c|pg=>Kx K v f c|rj=>v.c λj=>K (.a (ao j)) f c|rk=>BI K v f c|rl=>v.i λl=>Z l<=bi/\K (.e c.d) f (c.b<|.e l)|rn=>gy f c v λx=>x.a=an/\ge x.g/\x.k<=bi/\K (.h<|a0<|V.h an∈x.g) f c|rm=>gy f c v λx=>x.a=an/\ge x.g/\x.k<=bi/\K (.h<|a0<|V.h ax∉x.g) f c|rq=>v.i λr=>K (.h an) f c|rr=>v.i λl=>iu l/\Z l<64/\∀n:O,(∃d:U V,b0 d/\(∀x,x∈d↔x∈l)/\Z d=n)->K (.a n) f c|re=>∃l,(aL f c).i v=Y l/\wQ l/\Z l<64/\∀T:U V,(∀x,x∈T↔x∈l)->(b0 T)->T.Pairwise jb->K (.e c.d) f (c.b<|.e T)|rh=>∃l,(aL f c).k v=Y l/\iu l/\Z l<64/\∀T,hc ax l l T->K (.e c.d) f (c.b<|.e T)|ri=>v.w λm p g=>g=c.e (.b m p)/\(f.m m p).s λl=>Z l<=bi/\∃x X,l.getLast?=Y x/\X.l=f0 f.l m p (.o (iM l))/\K (.a x) X c
def Au(F:E4)(v w:V)(K:br)(s:aB)(c:aJ):Prop:=match F with|q9=>w.c λj=>nc v j K s c|rc=>w.c λj=>gy s c v λx=>x.a=an/\0<=j/\j<2^62/\x.k<=bi/\K (.e c.d) s (c.b<|.e<|x.g.take (bM j))|rb=>w.c λj=>gy s c v λx=>x.a=an/\0<=j/\j<2^62/\x.k<=bi/\K (.e c.d) s (c.b<|.e<|x.g.drop (bM j))|q8=>v.c λi=>w.c λj=>K (.a<|if i<j then j else i) s c|ra=>v.c λi=>w.c λj=>K (.a<|if j<i then j else i) s c|.log=>v.c λi=>w.f/\K (.e c.d) s (c.b<|.b [(i,w)])
@[reducible]def jM(f:V->br->aB->aJ->Prop)(K:br):br:=λv=>f v K
@[reducible]def BG(f:V->V->br->aB->aJ->Prop)(v:V)(K:br):br:=λw=>f v w K
@[reducible]def om(F:br->aB->aJ->Prop)(f:V->V->br->aB->aJ->Prop)(K:br):br:=λv=>F<|BG f v K
@[reducible]def nr(f:U V->br->aB->aJ->Prop)(v:V)(K:br)(s:aB)(c:aJ):Prop:=v.i λl=>f l K s c
@[reducible]def AQ(v w:V)(K:br)(s:aB)(c:aJ):Prop:=w.i λl=>K (.g<|v::l) s c
@[reducible]def G3(o a:O)(v:V)(K:br)(s:aB)(c:aJ):Prop:=lt o v<|mb s c o a λv=>K v s c
@[reducible]def KR(l:U V)(K:br)(s:aB)(c:aJ):Prop:=sQ l<|K (.e c.d) s<|c.b<|.e l
@[reducible]def DZ(l:U V)(K:br)(s:aB)(c:aJ):Prop:=sQ l<|K (.g l) s c
@[reducible]def sn(C:ei)(f:O)(l:U V)(K:br)(s:aB)(c:aJ):Prop:=C f l (bJ K)<|aL s c
@[reducible]def MF(C:ei)(F:br->aB->aJ->Prop)(o f:O)(x:V)(K:br)(s:aB)(c:aJ):Prop:=lt o x<|AZ f ((aL s c).j o 31=.d)<|F (jM (nr λl=>sn C f<|.b o::l) K) s c
@[reducible]def GM(F:br->aB->aJ->Prop)(l:V)(K:br)(s:aB)(c:aJ):Prop:=gy s c l (λp=>im)/\F (BG sh l K) s c
@[reducible]def BD(P:V->a3 O->ft->ft)(a:a3 O)(K:ft)(L:U V):br:=λv=>P v a K L
@[reducible]def N2(b:a3 O)(o a:O)(v:V)(K:ft)(L:U V):br:=λx s c=>lt o x<|e6 o 3=an/\s.m o a≠.f/\wN b o a v K L s c
@[reducible]def Q2(F:br->aB->aJ->Prop)(a:a3 O)(v:V)(K:ft)(L:U V):br:=λx=>F<|mi λj s c=>CZ a x j v K L s c
@[reducible]def BH(K:eX)(L:U V):br:=λv=>K (.c v) L
@[reducible]def BE(P:aB->aJ->Prop):br:=λp=>P
def bh(A:ei):a5->U V->br->aB->aJ->Prop|.d,_,K,u,p=>K (.g []) u p|.b E H,L,K,u,p=>bh A E L (om (bh A H L) AQ K) u p|.c P,L,K,u,p=>k2 L P λv=>K v u p|.s v,_,K,u,p=>K v u p|.q l',_,K,u,p=>K (mc l') u p|.f Q a' E,L,K,u,p=>bh A Q L (jM (G3 a' E) K) u p|.w T Q,L,K,u,p=>bh A Q L (jM (xc T) K) u p|.G T E H,L,K,u,p=>bh A E L (om (bh A H L) (Au T) K) u p|.m T E H,L,K,u,p=>bh A E L (om (bh A H L) (vr T) K) u p|.l T E H,L,K,u,p=>bh A E L (om (bh A H L) (l7 T) K) u p|.t E H,L,K,u,p=>bh A E L (h5 (bh A H L K)<|K<|.h ax) u p|.B E H,L,K,u,p=>bh A E L (h5 (K<|.h an)<|bh A H L K) u p|.D e' E H,L,K,u,p=>bh A e' L (h5 (bh A E L K)<|bh A H L K) u p|.e X,L,K,u,p=>bh A X L (jM (nr KR) K) u p|.g X,L,K,u,p=>bh A X L (jM (nr DZ) K) u p|.S,_,K,u,p=>K (.e p.d) u<|p.b<|.b []|.x E H b',L,K,u,p=>bh A E L (mi λE u p=>bh A H L (mi λH u p=>bh A b' L (mi λb' u p=>(ao E<2^30/\ao H<2^30)/\(b'=1\/b'=-1)/\K (.x E H b') u p) u p) u p) u p|.M Q i,L,K,u,p=>bh A Q L (λv u p=>∃N,(aL u p).k v=Y N/\dA N/\Z N<=4/\∃n:V->V,(∀R∈N,∀c':br,c' (n R) u p->A i [R] (bJ c') (aL u p))/\nf (N.map n)/\∀d',hc ax (N.map n) N d'->K (.e p.d) u (p.b<|.e d')) u p|.W Q a' i m',L,K,u,p=>bh A Q L (λv u p=>bh A a' L (λj' u p=>lt 0 j'<|∃N,(aL u p).k v=Y N/\dA N/\Z N<64/\∃n:V->am,(∀R∈N,∀c':br,c' (.a<|n R) u p->A i [j',R] (bJ c') (aL u p))/\∀d',hc m' (N.map λR=>.a<|n R) N d'->K (.e p.d) u (p.b<|.e d')) u p) u p|.y P f' g',L,K,u,p=>bh A f' L (λh' u p=>gH h' P (λL K _=>bh A g' L K) K L u p) u p|.C P f' e' g',L,K,u,p=>bh A f' L (λh' u p=>gH h' P (λL K n'=>bh A e' L<|h5 (bh A g' L K) n') K L u p) u p|.r i X,L,K,u,p=>bh A X L (jM (nr<|sn A i) K) u p|.j Q a' i X,L,K,u,p=>bh A Q L (jM (MF A (bh A X L) a' i) K) u p|.o Q R,L,K,u,p=>bh A Q L (jM (GM<|bh A R L) K) u p|.F Q R,L,K,u,p=>bh A Q L (λN u p=>gy u p N (λo'=>im)/\bh A R L (λv u p=>N.r λi'=>v.r λk'=>i'≠k'/\∃E H,p.a i'=Y (.e E)/\p.a k'=Y (.e H)/\dA E/\dA H/\Z E+Z H<=bi/\K .z u {p with a:=aw p.a i'<|Y<|.e<|E++H}) u p) u p|Q,L,K,u,p=>bA A Q L (bJ K)<|aL u p
def ns(C:ei):fT->V->a3 O->ft->U V->aB->aJ->Prop|.a h,v,_,K,L,s,c=>lA h v L λL=>K L s c|.f e o j,v,k,K,L,s,c=>bh C e L (N2 k o j v K L) s c|.i e h,v,k,K,L,s,c=>bh C e L (Q2 (bh C h L) k v K L) s c|.d,v,_,K,L,s,c=>v=.g []/\K L s c|.b j l,v,_,K,L,s,c=>v.s λx R=>Z R=l.k/\ns C j x au (ns C l (.g R) au K) L s c
def oG(P:ft)(K:eX):eX:=λf L s c=>f.g (P L s c)<|K f L s c
def Rv(z:O->ft)(n:O)(K:eX):eX:=λf L s a=>f.f (∃m,m<n/\z m L s a) (K .b L s a) λv=>K (.c v) L s a
def sy(k:ft)(K:eX):eX:=λf L s a=>f.f (k L s a) (K .b L s a) λv=>K (.c v) L s a
def eg(K:br):eX:=λf p s c=>f.a (K .z s c) λv=>K v s c
def bs(C:ei):bo->eX->U V->aB->aJ->Prop|.e,K,L,s,m=>K .b L s m|.d w q,K,L,s,m=>bs C w (oG (bs C q K) K) L s m|.b t p,K,L,s,m=>bh C p L (BD (ns C t) (hv p) (K .b) L) s m|.f p,K,L,s,m=>bh C p L (BE<|K .b L) s m|.a p,K,L,s,m=>bh C p L (BH K L) s m|.c t w q,K,L,s,m=>bh C t L (h5 (bs C w K L)<|bs C q K L) s m|.h t q,K,L,s,m=>l0 (λD n L=>bh C t L<|h5 (bs C q (Rv D n K) L)<|K .b L) L s m|.g t p q,K,L,s,m=>bh C p L (λG=>uq G (λv E=>ns C t v au<|bs C q<|sy E K) (K .b) L) s m|.j,K,L,s,m=>K .d L s m|.k,K,L,s,m=>K .e L s m|.i,_,_,_,_=>bW|.l y o F H,K,L,s,m=>k2 L y λv=>gy s m v (λM=>im)/\bh C o L (λA s m=>lt 0 A<|v.r λu=>∃r,m.a u=Y (.e r)/\dA r/\Z r<64/\(∃z:V->am,(∀x∈r,∀(B:br),B (.a<|z x) s {m with a:=aw m.a u au}->C F [A,x] (bJ B) (aL s {m with a:=aw m.a u au}))/\∀T,hc H (r.map λx=>.a<|z x) r T->K .b (L.set y<|.e m.d) s (({m with a:=aw m.a u au}:aJ).b<|.e T))) s m
theorem dM{C:ei}{m:bo}{K:eX}{L:U V}{s:aB}{c:aJ}(h:let i:=L;let a:=C;bs a m K i s c):bs C m K L s c:=h
theorem MP(s:aB)(c:aJ)(o a:O):(aL s c).c o a=(s.m o a).j:=I
theorem h6(h:b.a k=Y (.e l)):(aL s b).i (.e k)=Y l:=by refine(?_:(match b.a k with|Y (.e l)=>Y l|_=>au)=_);exact J h I
theorem d5.e(h:d5 j n):bM j<n:=n3 h.2.1<|eU<|l2 h.1
end
section
variable{s:aB}{c:aJ}{o a i g m:O}{f:O->U am}
mutual
theorem BR(h:g=c.e (.b o a))(M:(s.m o a).a=an):(aL s c).i (.j (.b o a) g)=Y (s.m o a).g:=(a9 h).trans<|aW (λf:cd=>f.d λi=>V.j (.a o a i)<|c.e<|.a o a i)<|lh M
theorem BQ(h:g=c.e (.b o a))(P:s.m o a=.n m f):(aL s c).i (.j (.b o a) g)=Y ((b2 (Z ((b2 m).map λi=>aD<|f i))).map λi=>V.j (.a o a i)<|c.e<|.a o a i):=(a9 h).trans<|aW (λx:b1=>x.j.d λi=>V.j (.a o a i)<|c.e<|.a o a i) P
theorem v8(h:g=c.e (.a o a i))(P:s.m o a=.n m f)(y:i<m):(aL s c).i (.j (.a o a i) g)=Y (aD<|f i):=(a9 h).trans<|(aW (λx:b1=>x.j.b λb=>b[i]?) P).trans<|nu y
end
end
mutual
theorem ot{α:Type}{g:O->α}:Z ((b2 b).map g)=b:=(bv ..).trans<|ec ..
theorem Cg{α:Type}{g:O->α}{r:O->V}:Z ((b2 (Z ((b2 b).map g))).map r)=b:=ot.trans ot
theorem qv{K:b1->Prop}(h:gy d n v K):∃x l,K x/\(aL d n).i v=Y l/\Z l=x.k/\(x.a=an->l=x.g):=by
 induction v using V.casesOn with
 |j l g=>induction l with|b o a=>exact aM h λA p=>Nb p (λM C=>h3 _ _ C (BR A M) (jH M) λq=>I) λm f P C=>h3 _ _ C (BQ A P) (Cg.trans (aW b1.k P).symm) λh=>aC ((aW b1.a P).symm.trans h) ar|a o a i=>exact aM h λA p=>oA p (λm f P h=>h3 _ _ h.2 (v8 A P h.1) (bv ..) λq=>I) be|_=>exact be h
 |e k=>exact ch h λx A p Q=>h3 x _ Q (h6 A) (jH p) λq=>I
 |_=>exact be h
theorem NL{K:b1->Prop}(h:gy b d v λx=>x.a=an/\K x):∃x,x.a=an/\K x/\(aL b d).i v=Y x.g:=by refine bb ?_;intro p;exact oS (qv h) λx l a A e Q=>aM a λM C=>bO x M C<|az (Q M) A
theorem H8(h:p=a0 (b=j)):p=a0 (V.a b=V.a j):=by refine J h ?_;simp[V.a.injEq]
set_option tactic.hygienic true in theorem HC{F:o9}{x y:V}{K:br}{Q:V->av->Prop}{s:aB}{c:aJ}(m:∀v s c,K v s c->Q v (aL s c))(b:l7 F x y K s c):iz F x y Q<|aL s c:=by
 induction F with
 |up=>
  have g:∀x y,gP x y/\K (.h<|a0<|x=y) s c->iz cB x y Q (aL s c):=λx y b=>⟨b.1,m _ _ _ b.2⟩;induction x using V.casesOn<;>try exact g _ _ b
  induction y using V.casesOn<;>try exact g _ _ b
  refine⟨.a _ _,?_⟩;exact az (H8 I)<|m _ _ _ b
 |down=>
  have g:∀x y,gP x y/\K (.h<|a0<|x≠y) s c->iz dj x y Q (aL s c):=λx y b=>⟨b.1,m _ _ _ b.2⟩;induction x using V.casesOn<;>try exact g _ _ b
  induction y using V.casesOn<;>try exact g _ _ b
  rename_i i j;refine⟨.a _ _,?_⟩;exact J (by simp[V.a.injEq]:decide (V.a i≠V.a j)=decide (i≠j))<|m _ _ _ b
 |halfEven=>refine ch b λl A d e=>?_;exact(aW (λo=>bF o λl=>mf (aL s c) y l x/\Q (.h<|a0<|x∈l) (aL s c)) A).mpr ⟨d,m _ _ _ e⟩
 |zeroFiveUp=>refine ch b λl A d e=>?_;exact(aW (λo=>bF o λl=>mf (aL s c) y l x/\Q (.h<|a0<|x∉l) (aL s c)) A).mpr ⟨d,m _ _ _ e⟩
 |_=>exact dc (λp b=>dc (λp b=>m _ _ _ b) b) b
theorem cf{o:a3 α}{a:α}{k:α->Prop}(h:o=Y a)(C:k a):bF o k:=J h C
theorem Hd{K:br}(m:∀v d j,K v d j->Q v (aL d j))(h:vr F x y K d j):ke F x y Q<|aL d j:=by
 induction F with
 |integer=>
  induction x using V.casesOn with
  |a i=>induction y using V.casesOn<;>first|exact m _ _ _ h|exact be h
  |g i=>induction y using V.casesOn<;>first|exact⟨h.1,m _ _ _ h.2⟩|exact be h
  |e i=>induction y using V.casesOn<;>first|exact be h|(exact oS h λa b A f k l=>cf (h6 A)<|cf (h6 f) ⟨k,m _ _ _ l⟩)
  |_=>induction y using V.casesOn<;>exact be h
 |text=>exact dc (λp h=>dc (λp h=>m _ _ _ h) h) h
 |_=>exact dc (λp h=>dc (λp h=>bw h λh=>m _ _ _ h) h) h
theorem MQ{j:am}(h:0<=j)(n:O):bM (if j<0 then j+n else j)=bM j:=J (bf (by exact(aq [1,1] I:ap 0 1 [.d .i .a] (.f<|.b .a .i)) h)) I
def BC(N:av)(v:V)(j:am)(Q:V->av->Prop):Prop:=bF (N.i v) λl=>-(Z l:am)<=j/\j<2^62/\Z l<=bi/\bF (l[(bM (if j<0 then j+Z l else j))]?) λr=>Q r N
theorem sM(h:(aL e k).i v=Y l)(f:d5 j (Z l))(C:l[(bM j)]?=Y n)(q:Q n (aL e k)):BC (aL e k) v j Q:=cf h<|bV ((aq [1,1] I:ap 1 1 [.d .i .a] (.d (.r .g) .a)) f.1) ((aq [1,1,1] I:ap 1 1 [.b .a .g,.g .a<|.c 16777216] (.b .a<|.c<|2^62)) f.2.1 f.2.2) f.2.2 (by rw[MQ f.1];exact cf C q)
def Ku(N:av)(v:V)(j:am)(Q:V->av->Prop):Prop:=v.n (λl=>0<=j/\j<2^62/\bF (l[(bM j)]?) λr=>Q r N)<|BC N v j Q
theorem Q5{n:O}(h:0<n):bM (-1+(n:am))=n-1:=by induction n using nF with|zero=>exact aA h<|f5 0|succ k=>exact(aW bM<|(aW (λx:am=>-1+x)<|Int.add_comm k 1).trans<|Int.neg_add_cancel_left 1 k).trans<|Int.toNat_natCast k
theorem Kb{K:br}(m:∀v p q,K v p q->Q v (aL p q))(z:nc v t K p q):Ku (aL p q) v t Q:=by
 induction v using V.casesOn with
 |g l=>exact oR z λA u E w y=>aP A u<|cf w<|m _ _ _ y
 |j l g=>
  induction l with
  |b o a=>
   refine b6 z λA u w=>b1.h (p.m o a) (λM=>sM (BR A M) (J (jH M) u) (vF M u.e)<|m _ _ _<|az (Kv M) w) (λn f P=>?_) λB=>?_
   .rw[P]at u w;exact sM (BQ A P) (J Cg u) (nu<|J ot u.e)<|m _ _ _ w
   .rw[B]at u;exact aA u.e<|my _
  |a o a i=>exact aM z λA u=>oA u (λn f P z=>b6 z λu w y=>sM (v8 A P u) (J (bv ..) w) (wc w.e)<|m _ _ _ y) be
  |_=>exact be z
 |e k=>
  refine ch z λx A u w=>?_;refine aE w (λX=>aM X λw y=>?_) λX=>en X λw y C D=>?_
  .exact sM (h6 A) (J (jH u) w) (vF u w.e)<|m _ _ _ y
  .refine J w<|cf (h6 A)<|bV (J (jH u)<|(aq [1,1] I:ap 1 0 [.e .i .a] (.d (.r .g)<|.c<|-1)) y) (aq [1] I:ap 0 0 [] (.b (.c<|-1)<|.c<|2^62)) (J (jH u) C) ?_;haveI B:bM (if(-1)<0 then(-1:am)+Z x.g else-1)=x.k-1:=J (a9 (by exact(aq [1] I:ap 0 0 [] (.b (.c<|-1) .i))))<|az (jH u)<|Q5<|J (jH u) y;exact J B<|cf (vF u<|(aq [1,1] I:ap 2 0 [.a (.h .a) .b] (.e .a .b))<|cy<|k8 y)<|m _ _ _ D
 |_=>exact be z
theorem qo(h:lt d v P):v=.b d/\P:=by
 induction v using V.casesOn with
 |b y=>delta lt at h;dsimp only at h;cases e:jr y d with|true=>rw[e]at h;exact az (Nat.eq_of_beq_eq_true e) ⟨I,h⟩|false=>rw[e]at h;exact be h
 |_=>exact be h
theorem Is{K:V->Prop}(h:mb p q d k K):∃r,(aL p q).n d k=Y r/\K r:=by
 revert p q d k K;refine@je _<|e0 @(letI p:=_;letI q:=_;letI d:=_;letI k:=_;letI K:=_;(e3 ?_:eE _ _ _ _ _ p q d k K));intros;delta mb at h;haveI e:(aL p q).j d k=(p.m d k).j.q (.j (.b d k)<|q.e<|.b d k):=I;cases P:p.m d k with
 |f=>replace h:=P▸h;exact be h
 |l v=>rw[P]at h e;haveI g:(aL p q).j d k=v:=e;induction v using V.casesOn<;>first|exact be h|(refine aF _ ?_ h;delta av.n;exact J g I)
 |_=>rw[P]at h e;refine aF _ ?_ h;delta av.n;exact J e I
set_option tactic.hygienic true in theorem yB{L:U V}{i:O}{P:V->Prop}(h:k2 L i P):∃v,c5 L i=Y v/\P v:=by delta k2 at h;delta c5;revert h;generalize L[i]?=o;intro h;induction o using tQ with|none=>exact be h|some v=>induction v using V.casesOn<;>first|exact aF _ I h|exact be h
theorem Ig(h:AZ b A P):(b=0->A)/\P:=by induction b with|zero=>exact xk (λp=>h.1) h.2|succ n=>exact xk (λh=>aC h ar) h
theorem BL(h:sQ l P):Z l<=bi/\P:=by delta sQ at h;cases e:EI (Z l) bi with|true=>rw[e]at h;exact⟨EK e,h⟩|false=>rw[e]at h;exact be h
set_option tactic.hygienic true in theorem Ci(v:V):ql v=a0 (v=.z):=by induction v using V.casesOn<;>first|exact(fC I).symm|exact(io ar).symm
theorem Bw{x:b1}(h:x.a=an):x≠.f:=by intro e;rw[e]at h;exact aC h ar
theorem lr(m:O)(f:O->U am):(b1.n m f).j=.a ((b2 m).map λb=>aD<|f b):=I
theorem NN(m:O)(f:O->U am)(x:U am):(b2<|m+1).map (λb=>aD<|aw f m x b)=(b2 m).map (λb=>aD<|f b)++[aD x]:=by
 refine J SG<|J dY ?_;congr 1
 .apply kQ;intro b y;rw[ed]at y;simp[aw,bj y]
 .simp[aw]
theorem wJ(m j:O)(f:O->U am)(x:U am):(b2 m).map (λb=>aD<|aw f j x b)=((b2 m).map λb=>aD<|f b).set j (aD x):=by
 apply qQ;intro b;by_cases h:j=b
 .subst h;by_cases s:j<m
  .simp[xy,s,aw]
  .simp[xy,s]
 .refine J (jo h) ?_;by_cases y:b<m
  .simp[y,aw,f8 h]
  .simp[y]
theorem gw(l:U am):dA<|aD l:=by refineλv h=>ay (bL.mp h) λi p e=>az e ?_;trivial
theorem pS{s:aB}(h:s.m o a=x)(M:x≠.f):s.m o a≠.f:=J h M
theorem lq(s:aB)(c:aJ):aL s c=⟨oe s,λo=>e6 o 3,c.e,c.a,c.d,c.m⟩:=I
theorem N4{y:av}(L:y.c o a=.c l)(M:x.f)(d:Z l<bi):y.o (.j (.b o a)<|y.e<|.b o a) x=Y {y with c:=dh y.c o a<|.c<|l++[x]}:=by delta av.o;simp only[hO,L];exact a9 ⟨M,d⟩
theorem N5{y:av}(L:y.c o d=.a x)(z:y.a k=Y (.e l))(M:dA l)(f:Z x<bi):y.o (.j (.b o d)<|y.e<|.b o d) (.e k)=Y {y with c:=dh y.c o d<|.a<|x++[l],e:=ff y.e<|.a o d (Z x),a:=aw y.a k au}:=by delta av.o;simp only[hO,L];simp only[cd.f,V.t,z];exact a9 ⟨M,f⟩
theorem Oz{y:av}{d:am}(L:y.c o a=.c l)(A:0<=d)(i:d<Z l)(M:x.f):y.s (.j (.b o a)<|y.e<|.b o a) d x=Y (x,{y with c:=dh y.c o a<|.c<|l.set (bM d) x}):=by delta av.s;simp only[hO,L];exact a9<|aP A i M
theorem OA{y:av}{f:am}(L:y.c o d=.a x)(z:y.a k=Y (.e l))(A:0<=f)(i:f<Z x)(M:dA l):y.s (.j (.b o d)<|y.e<|.b o d) f (.e k)=Y (.j (.a o d (bM f))<|y.e (.a o d (bM f))+1,{y with c:=dh y.c o d<|.a<|x.set (bM f) l,e:=ff y.e<|.a o d (bM f),a:=aw y.a k au}):=by delta av.s;simp only[hO,L];simp only[cd.f,V.t,z];exact a9<|aP A i M
theorem OB{y:av}{e:am}(L:y.c o b=.a d)(f:d[i]?=Y l)(A:0<=e)(g:e<Z l)(M:x.f):y.s (.j (.a o b i)<|y.e<|.a o b i) e x=Y (x,{y with c:=dh y.c o b<|.a<|d.set i<|l.set (bM e) x}):=by delta av.s;simp only[hO,L];simp only[cd.b,f];exact a9<|aP A g M
theorem N6{y:av}(L:y.c o b=.a d)(e:d[i]?=Y l)(M:x.f)(g:Z l<bi):y.o (.j (.a o b i)<|y.e<|.a o b i) x=Y {y with c:=dh y.c o b<|.a<|d.set i<|l++[x]}:=(aW (λq:a3<|U V=>q.bind λl=>if x.f/\Z l<bi then y.p (.j (.a o b i)<|y.e<|.a o b i) (l++[x])else au)<|((a9 I).trans<|aW (λf:cd=>f.b λd=>d[i]?) L).trans e).trans<|(a9 ⟨M,g⟩).trans<|aW (λf:cd=>f.b λd=>Y<|av.mk (dh y.c o b<|.a<|d.set i<|l++[x]) y.f y.e y.a y.d y.m) L
theorem G2{y:av}(z:y.f o=an)(x:mm o d=ax)(f:y.a k=Y (.e l))(g:dA l):y.l o d (.e k)=Y (.j (.b o d)<|y.e (.b o d)+1,{y with c:=dh y.c o d<|.c l,e:=dz y.e o d,a:=aw y.a k au}):=by delta av.l;simp only[z,x,f,hO];exact a9 g
theorem lp(h:s.m o a=x)(e:x.j=y):(aL s b).c o a=y:=by rw[MP,h,e]
theorem qK(l:U am)(x:am):aD (l++[x])=aD l++[.a x]:=by simp[aD]
theorem RO(l:U am)(i:O)(x:am):aD (l.set i x)=(aD l).set i (.a x):=by simp[aD,SD]
theorem Al(e:s.m d a=y)(A:y.k<bi)(i:x.f)(Q:y.a=an)(f:l.a=an)(g:l.g=y.g++[x])(P:X.l=f0 s.l d a l):(aL s c).o (.j (.b d a)<|c.e<|.b d a) x=Y (aL X c):=(N4 (y:=aL s c) (lp e<|lh Q) i<|J (jH Q) A).trans<|(lq X c).symm▸(lf P<|pS e<|Bw Q).symm▸(lh f).symm▸g.symm▸I
@[elab_as_elim]theorem s7{v:V}{f:am->Prop}{P:V->Prop}(h:v.c f)(k:∀i,f i->P (.a i)):P v:=by induction v using V.casesOn<;>first|exact k _ h|exact be h
@[elab_as_elim]theorem s8{v:V}{f:O->Prop}{P:V->Prop}(h:v.r f)(k:∀i,f i->P (.e i)):P v:=by induction v using V.casesOn<;>first|exact k _ h|exact be h
theorem Nc{v:V}(h:v.r f):∃k,v=.e k/\f k:=s8 h λk h=>aF k I h
theorem Nf{r:a3 α}{A P:Prop}{f:α->Prop}(h:oB r A f)(k:A->P)(G:∀a,r=Y a->f a->P):P:=by induction r;exact k h;exact G _ I h
set_option tactic.hygienic true in theorem GP{v t:V}{K:br}{Q:V->av->Prop}{s:aB}{c:aJ}(m:∀v s c,K v s c->Q v (aL s c))(h:sh v t K s c):bF ((aL s c).o v t) λN=>Q .z N:=by
 induction v using V.casesOn with
 |j l g=>
  induction l with
  |b D E=>
   haveI A:=h.1;haveI d:=h.2;refine J A ?_;refine oA d (λn f P h=>?_) λh=>b6 h λA d r=>?_
   .refine aM h λA h=>hw h λk l X F r u w=>?_;refine J F ?_;refine cf (a:=aL X {c with e:=ff c.e<|.a D E n,a:=aw c.a k au}) ?_<|m _ _ _ w;refine(N5 (y:=aL s c) (lp P<|lr n f) r (gw l) (by exact J ot A)).trans ?_;rw[lq X,lf u<|pS P ar,lr,NN,ot];rfl
   .exact Nf r (λr=>Ee r λG X y T B C M=>cf (Al I A d y T B C)<|m _ _ _ M) λG H r=>ay r λX C M=>b6 (GQ H) λy T B=>cf (Al I A d y T B C)<|m _ _ _ M
  |a D E i=>haveI A:=h.1;haveI d:=h.2;refine J A ?_;refine oA d (λn f P d=>?_) be;refine s7 d λt d=>oR d λd r X u w=>cf (a:=aL X c) ?_<|m _ _ _ w;refine(N6 (y:=aL s c) (lp P<|lr n f) (nu d) (x:=.a t) bk (by delta aD;rw[bv];exact r)).trans ?_;rw[lq X,lf u<|pS P ar,lr,wJ,qK];rfl
  |_=>exact be h
 |e k=>refine dC h λl A d r u=>?_;refine cf (a:=aL s {c with a:=aw c.a k<|Y<|.e<|l++[t]}) ?_<|m _ _ _ u;exact(aW (λq:a3<|U V=>q.bind λl=>if t.f/\Z l<bi then(aL s c).p (.e k) (l++[t])else au)<|h6 A).trans<|a9 ⟨r,d⟩
 |_=>exact be h
set_option tactic.hygienic true in theorem Og{B:a3 O}{v q:V}{t:am}{K:ft}{Q:U V->av->Prop}{L:U V}{u:aB}{c:aJ}(m:∀L u c,K L u c->Q L (aL u c))(h:CZ B v t q K L u c):t<2^62/\bF ((aL u c).s v t q) λp=>Q (jc B q p.1 L) p.2:=by
 revert v q;revert B t K Q L u c;refine@hs _ ?_;refine e0 @(letI B:=_;letI t:=_;letI K:=_;letI Q:=_;letI L:=_;letI u:=_;letI c:=_;(e3 ?_:eE _ _ _ B t K Q L u c));set_option tactic.hygienic false in intros
 have F:∀(q w:V),q.f->jc B q w L=L:=by intro q w M;induction q using V.casesOn<;>first|exact be M|(induction B<;>rfl)
 induction v using V.casesOn with
 |j l a'=>
  induction l with
  |b o E=>
   haveI A:=h.1;haveI r:=h.2;refine J A ?_;refine oA r (λn f P r=>?_) λh=>?_
   .refine ay (Nc r) λk H r=>?_;subst H;refine aM r λy h=>b6 y λy z C=>dd h λl X D N R=>?_;refine⟨by exact u1 z C (I:bi=16777216),cf (a:=(.j (.a o E (bM t))<|c.e (.a o E (bM t))+1,aL X {c with e:=ff c.e<|.a o E (bM t),a:=aw c.a k au})) ?_<|m _ _ _ R⟩;refine(OA (y:=aL u c) (lp P<|lr n f) D y (by exact J ot z)<|gw l).trans ?_;rw[lq X,lf N<|pS P ar,lr,wJ];rfl
   .refine bb ?_;intro b';refine aM h λA h=>b6 A λA r S=>aM h λy z=>ay z.a λc' T z=>ay z λX C D=>b6 (Oi T) λG W g=>?_;refine⟨by exact u1 r S (I:bi=16777216),cf (a:=(q,aL X c)) ?_ (by exact J (F _ _ y)<|m _ _ _ D)⟩;refine(Oz (y:=aL u c) (lp I<|lh G) A (by exact J (jH G) r) y).trans ?_;rw[lq X,lf C<|Bw G,lh W,g];rfl
  |a o E d'=>haveI A:=h.1;haveI r:=h.2;refine J A ?_;refine oA r (λn f P r=>?_) be;refine s7 r λq r=>b6 r λr y h=>b6 y λy z i=>ay h λX C D=>?_;refine⟨by exact u1 z i (I:bi=16777216),cf (a:=(.a q,aL X c)) ?_ (by exact J (F (.a q) _ bk)<|m _ _ _ D)⟩;refine(OB (y:=aL u c) (lp P<|lr n f) (nu r) (x:=.a q) y (by delta aD;rw[bv];exact z) bk).trans ?_;rw[lq X,lf C<|pS P ar,lr,wJ,RO];rfl
  |_=>exact be h
 |e k=>refine Rz h λA r d y z C=>?_;refine⟨r,cf (a:=(q,aL u {c with a:=aw c.a k<|Y<|.b<|od d t q})) ?_ (by exact J (F _ _ A)<|m _ _ _ C)⟩;exact(aW (λo:a3 b8=>iG o (λl=>if 0<=t/\t<Z l/\q.f then Y (q,{aL u c with a:=aw c.a k<|Y<|.e<|l.set (bM t) q})else au) λd=>if q.f/\Z d<bi then Y (q,{aL u c with a:=aw c.a k<|Y<|.b<|od d t q})else au) y).trans<|a9 ⟨A,z⟩
 |_=>exact be h
theorem N7{n:a3 O}{o i:O}{v:V}{K:ft}{Q:U V->av->Prop}{L:U V}{s:aB}{c:aJ}(m:∀L s c,K L s c->Q L (aL s c))(z:e6 o 3=an)(x:s.m o i≠.f)(h:wN n o i v K L s c):bF ((aL s c).l o i v) λp=>Q (jc n v p.1 L) p.2:=by
 revert v K Q;revert n o i L s c;refine@kx _<|e0 @(letI n:=_;letI o:=_;letI i:=_;letI L:=_;letI s:=_;letI c:=_;(e3 ?_:eE _ _ _ _ n o i L s c));intros;have r:∀w:V,w.A->(∃X:aB,X.l=f0 s.l o i (.l w)/\K L X {c with e:=dz c.e o i})->bF ((aL s c).l o i w) λp=>Q (jc n w p.1 L) p.2:=by
  intro w t⟨X,A,q⟩;refine cf (a:=(w,aL X {c with e:=dz c.e o i})) ?_ ?_
  .rw[lq X,lf A x];induction w using V.casesOn<;>first|exact be t|exact a9 z
  .haveI u:jc n w w L=L:=by induction w using V.casesOn<;>first|exact be t|(induction n<;>rfl)
   exact J u<|m _ _ _ q
 induction v using V.casesOn with
 |e B=>delta wN at h;dsimp only at h;cases G:mm o i with|true=>rw[G]at h;exact be h|false=>rw[G]at h;refine Ee h λy X A q C D E=>cf (a:=(.j (.b o i)<|c.e (.b o i)+1,aL X {c with e:=dz c.e o i,a:=aw c.a B au})) ((G2 (y:=aL s c) z G A q).trans ?_)<|m _ _ _ E;rw[lq X,lf D x,lh C];rfl
 |d=>exact be h
 |j F g=>exact be h
 |k F=>exact be h
 |_=>exact r _ bk h
theorem vJ{K:br}{Q:V->av->Prop}(m:∀v s c,K v s c->Q v (aL s c)):∀v N,bJ K v N->Q v N:=λv N F=>cF F λs c a h=>J a<|m _ _ _ h
theorem l5(h:e6 a b=an):a<b:=EK h
theorem sV{α:Type}(l:U α)(g:α->V)(z:U α->U V->aB->aJ->Prop)(body:V->U V->(U V->av->Prop)->av->Prop)(y:∀p a s c,z p a s c->ho G s c (l.map g))(b:∀p x r a s c,l=p++x::r->z p a s c->∀P,(∀a s c,z (p++[x]) a s c->P a (aL s c))->body (g x) a P (aL s c))(M:∀a s c,z l a s c->Q a (aL s c)):∀r p a s c,l=p++r->z p a s c->iC G body (Z r+1) (Z p) a Q (aL s c):=by intro r;induction r with|nil=>intro p a s c e h;haveI A:=y _ _ _ _ h (Z p);rw[dI]at e;subst e;rw[gX (by simp)]at A;exact cf A<|M _ _ _ h|cons x r d=>intro p a s c e h;haveI A:=y _ _ _ _ h (Z p);rw[(by refine J e ?_;simp:(l.map g)[p.length]?=some (g x))]at A;refine cf A<|b p x r a s c e h _ λf X i j=>?_;haveI:=d (p++[x]) f X i (by refine J e ?_;simp) j;rw[bI]at this;exact this
theorem v5(A:hR C)(l:U V):∀Q,(∀x∈l,∀a,a (g x) s c->C f (n++[x]) (bJ a) (aL s c))->Q (l.map g) (aL s c)->iB C f n l Q (aL s c):=by induction l with|nil=>exactλQ p q=>q|cons x r i=>exactλQ h q=>A _ _ _ _ _ (λv N b=>cF b λX d e b=>(by rw[e];exact b.2))<|h x (bu ..) (λv X d=>v=g x/\iB C f n r (λj N=>Q (v::j) N) (aL X d)) ⟨I,i _ (λy k=>h y<|cm _ k) q⟩
theorem xd(h:wm v P):v≠.d/\P v:=by induction v using V.casesOn<;>first|exact be h|exact⟨ar,h⟩
@[elab_as_elim]theorem Ng{v:V}{f:O->O->O->Prop}{P:V->Prop}(h:v.w f)(k:∀o a g,f o a g->P (.j (.b o a) g)):P v:=by
 induction v using V.casesOn with
 |j l g=>induction l<;>first|exact k _ _ _ h|exact be h
 |_=>exact be h
theorem Nd{x:b1}(h:x.s f):∃l,x=.o l/\f l:=by induction x<;>first|exact aF _ I h|exact be h
theorem Cz(h:f i):(V.a i).c f:=h
theorem qa(m:P s c->A)(g:Q s c->B)(h:h5 P Q v s c):v.l λr=>ix r A B:=jN (λb h=>by induction b;exact g<|h.2 I;exact m<|h.1 I) h
theorem oF{K:b1->Prop}(h:gy s c v λx=>x.a=an/\K x)(m:∀x,Z x.g=x.k->K x->k x.g):bF ((aL s c).i v) k:=ch (NL h) λx q A a=>cf a<|m x (jH q) A
theorem op{a b n:O}(e:a=b)(h:b<=n):a<=n:=J e h
theorem MS{l:U V}(e:Z l=n):a0 (n=0)=a0 (l=[]):=by simp only[<-e,iN]
theorem MU(v:V):(!ql v)=a0 (v≠.z):=by refine J (Ci v) ?_;simp
theorem NB{K:br}{Q:V->av->Prop}(y:∀v j k,K v j k->Q v (aL j k))(h:v.w λn q g=>g=k.e (.b n q)/\(j.m n q).s λl=>Z l<=bi/\∃x X,l.getLast?=Y x/\X.l=f0 j.l n q (.o (iM l))/\K (.a x) X k):bF ((aL j k).i v) λl=>dA l/\Z l<=bi/\bF l.getLast? λr=>bF ((aL j k).p v (iM l)) λA=>Q r A:=by refine Ng h λn q g h=>bb ?_;intro F;obtain⟨z,t⟩:=h;subst z;refine ay (Nd t) λl P t=>aM t λt h=>dd h λx X B C D=>cf ((a9 I).trans<|aW (λu:cd=>u.d λw=>V.j (.a n q w)<|k.e<|.a n q w)<|lp P<|lh I)<|aP (gw l) (aH (jt<|bv ..) t)<|cf (by unfold aD;exact J List.getLast?_map<|J B I:(aD l).getLast?=some (.a x))<|cf ((aW (λu:cd=>u.f (λE=>Y<|av.mk (dh (oe j) n q<|.c (iM (aD l))) (aL j k).f (aL j k).e (aL j k).a (aL j k).d (aL j k).m) λE=>au)<|lp P<|lh I).trans ?_)<|y _ _ _ D;rw[lq X,lf C<|J P ar,lh I,show iM (aD l)=aD (iM l)from(List.map_dropLast ..).symm];rfl
theorem Rn{K:br}(m:∀v s c,K v s c->Q v (aL s c))(h:xc F v K s c):tu F v Q<|aL s c:=by induction F with|nextStart=>exact dc (λp h=>m _ _ _ h) h|nextBranch=>exact m _ _ _<|az (Ci v) h|giveBack=>exact m _ _ _<|az (MU v) h|takeMore=>exact oF h λx e h=>⟨op e h.1,m _ _ _<|az (MS e) h.2⟩|closeLoop=>exact jN (λp h=>m _ _ _ h) h|maxBelow=>exact qr (λp h=>bw h<|m _ _ _) (λh=>oS (qv h) λx l A d f p=>cf d<|J f<|bw A<|m _ _ _) h|maxMore=>exact dc (λp h=>m _ _ _ h) h|maxTail=>exact qr (λp h=>m _ _ _ h) (λh=>oF h λx e h=>bw h λh=>⟨op e h.1,m _ _ _ h.2⟩) h|minBelow=>exact gg (λp h=>bw h<|m _ _ _) h|minTail=>exact oF h λx e h=>bw h λh=>⟨op e h.1,m _ _ _ h.2⟩|minMore=>exact oF h λx e h=>bw h λh=>⟨op e h.1,m _ _ _ h.2⟩|possBelow=>exact gg (λp h=>m _ _ _ h) h|possMore=>exact gg (λp h=>bw h λh=>bw h λh n g=>m _ _ _<|h n g) h|atomic=>exact dC h λl A i d f=>cf A<|aP i d λo a b e=>m _ _ _<|f o a b e|look=>exact dC h λl A i d f=>cf A<|aP i d λT z=>m _ _ _<|f T z|lookNot=>exact NB m h
theorem G5{K:br}(m:∀v s c,K v s c->Q v (aL s c))(h:Au F v w K s c):sj F v w Q<|aL s c:=by induction F with|ignore=>exact dc (λj h=>Kb m h) h|warn=>exact dc (λj h=>oF h λx e h=>bw h λh=>bw h λh=>⟨op e h.1,m _ _ _ h.2⟩) h|raise=>exact dc (λj h=>oF h λx e h=>bw h λh=>bw h λh=>⟨op e h.1,m _ _ _ h.2⟩) h|call=>exact dc (λp h=>dc (λp h=>m _ _ _ h) h) h|print=>exact dc (λp h=>dc (λp h=>m _ _ _ h) h) h|log=>exact dc (λp h=>bw h<|m _ _ _) h
def FM(C:ei)(e:a5):Prop:=∀(L:U V)(K:br)(Q:V->av->Prop)(s:aB)(c:aJ),(∀v s c,K v s c->Q v (aL s c))->bh C e L K s c->bA C e L Q (aL s c)
theorem NH(n':hR n)(a:a5):FM n a:=by have F':∀a L K X A E,(∀v A E,K v A E->X v (aL A E))->bA n a L (bJ K) (aL A E)->bA n a L X (aL A E):=λa L K X A E H h=>gV n' _ _ _ _ _ (vJ H) h;induction a with|d|s|q|S=>exactλL K X A E H h=>H _ _ _ h|b i j' k p=>exactλL K X A E H h=>k L _ _ A E (λv A E h=>p L _ _ A E (λk' A E h=>gg (λz h=>H _ _ _ h) h) h) h|c t'=>exactλL K X A E H h=>ay (yB h) λv a' b'=>cf a'<|H _ _ _ b'|f a D' i c'=>exactλL K X A E H h=>c' L _ _ A E (λv A E h=>bw (qo h) λh=>ay (Is h) λr' d' e'=>cf d'<|H _ _ _ e') h|w u' a c'=>exactλL K X A E H h=>c' L _ _ A E (λv A E h=>Rn H h) h|G u' i j' k p=>exactλL K X A E H h=>k L _ _ A E (λv A E h=>p L _ _ A E (λk' A E h=>G5 H h) h) h|m u' i j' k p=>exactλL K X A E H h=>k L _ _ A E (λv A E h=>p L _ _ A E (λk' A E h=>Hd H h) h) h|l u' i j' k p=>exactλL K X A E H h=>k L _ _ A E (λv A E h=>p L _ _ A E (λk' A E h=>HC H h) h) h|t i j' k p=>exactλL K X A E H h=>k L _ _ A E (λv A E h=>qa (p L _ _ A E H) (H _ _ _) h) h|B i j' k p=>exactλL K X A E H h=>k L _ _ A E (λv A E h=>qa (H _ _ _) (p L _ _ A E H) h) h|D G' i j' v' k p=>exactλL K X A E H h=>v' L _ _ A E (λv A E h=>qa (k L _ _ A E H) (p L _ _ A E H) h) h|e a c'=>exactλL K X A E H h=>c' L _ _ A E (λv A E h=>gg (λf' h=>bw (BL h)<|H _ _ _) h) h|g a c'=>exactλL K X A E H h=>c' L _ _ A E (λv A E h=>gg (λf' h=>bw (BL h)<|H _ _ _) h) h|x i j' R' k p H'=>refineλL K X A E H h=>k L _ _ A E (λv A E h=>?_) h;refine s7 h λt' h=>p L _ _ A E (λk' A E h=>?_) h;exact s7 h λS' h=>H' L _ _ A E (λT' A E h=>Cz<|Cz<|dc (λf' h=>aP h.1.1 h.1.2<|bw h.2<|H _ _ _) h) h|M a w' c'=>exactλL K X A E H h=>c' L _ _ A E (λv A E h=>bD h λz h=>Ry h λa' b' d' o' e' l' h'=>cf a'<|aP b' d'<|v5 n' z _ e' ⟨l',λx' y'=>H _ _ _<|h' x' y'⟩) h|W a D' w' U' g' I'=>exactλL K X A E H h=>g' L _ _ A E (λv A E h=>I' L _ _ A E (λk' A E h=>bw (qo h) λh=>bD h λz h=>Eb h λa' b' d' o' e' h'=>cf a'<|aP b' d'<|v5 n' z _ e' ⟨λJ' K'=>ay (bL.mp K') λm' f' a=>⟨_,a.symm⟩,λx' y'=>H _ _ _<|h' x' y'⟩) h) h|y t' L' M' z' g'=>refineλL K X A E H h=>z' L _ _ A E (λv A E h=>?_) h;obtain⟨α,z,o',A',a',b',d',e',l'⟩:=h;exact⟨Z z+1,sV (Q:=λB' p'=>X (.e p'.d)<|p'.b<|.e B') z o' A' _ (λi' i A E h=>(b' i' i A E h).1) (λi' m' r' i A E a h N' s'=>aM (xd<|e' i' m' r' i A E a h) λh' q'=>bV (l5 a') h' (b' i' i A E h).2<|g' _ _ _ _ _ (λE' A E h=>s' _ _ _ h) q') (λi A E h=>H _ _ _<|l' i A E h) z [] [] A E I d'⟩|C t' L' G' M' z' v' g'=>refineλL K X A E H h=>z' L _ _ A E (λv A E h=>?_) h;obtain⟨α,z,o',A',a',b',d',e',l'⟩:=h;exact⟨Z z+1,sV (Q:=λB' p'=>X (.e p'.d)<|p'.b<|.e B') z o' A' _ (λi' i A E h=>(b' i' i A E h).1) (λi' m' r' i A E a h N' s'=>aM (xd<|e' i' m' r' i A E a h) λh' q'=>bV (l5 a') h' (b' i' i A E h).2<|v' _ _ _ _ _ (λE' A E h=>qa (g' _ _ _ _ _ λE' A E h=>s' _ _ _ h) (s' _ _ _) h) q') (λi A E h=>H _ _ _<|l' i A E h) z [] [] A E I d'⟩|r w' O' c'=>exactλL K X A E H h=>c' L _ _ A E (λv A E h=>gg (λf' h=>n' _ _ _ _ _ (vJ H) h) h) h|j a D' w' O' g' P'=>exactλL K X A E H h=>g' L _ _ A E (λv A E h=>bw (qo h) λh=>bw (Ig h) λh=>P' L _ _ A E (λk' A E h=>gg (λf' h=>n' _ _ _ _ _ (vJ H) h) h) h) h|o a m' g' C'=>exactλL K X A E H h=>g' L _ _ A E (λv A E h=>dd (qv h.1) λf' z f' a' f'=>cf a'<|C' L _ _ A E (λk' A E h=>GP H h) h.2) h|F a m' g' C'=>exactλL K X A E H h=>g' L _ _ A E (λv A E h=>dd (qv h.1) λf' z f' a' f'=>cf a'<|C' L _ _ A E (λk' A E h=>by exact s8 h λJ' h=>s8 h λV' h=>aM h λb' h=>RF h λi j' d' e' l' h' q' Q'=>cf (h6 d')<|cf (h6 e')<|fg l' h' (λa=>b'<|V.e.inj a) q'<|H _ _ _ Q') h.2) h|Q|R|T|N|u|P=>exact F' _
theorem kz(A:hR C):∀e L a Q s c,(∀v s c,a v s c->Q v (aL s c))->bh C e L a s c->bA C e L Q (aL s c):=NH A
theorem Oe(h:lA i v L P):i<Z L/\v≠.d/\P (L.set i v):=by delta lA at h;cases e:e6 i (Z L)with|true=>rw[e]at h;exact aM (xd h) λA a=>aP (l5 e) A a|false=>rw[e]at h;exact be h
theorem CE(A:hR C):∀t v g k Q L s c,(∀L s c,k L s c->Q L (aL s c))->ns C t v g k L s c->iw C t v g Q L (aL s c):=by intro t;induction t with|d=>exactλv g k Q L s c m h=>⟨h.1,m _ _ _ h.2⟩|b q B y r=>exactλv g k Q L s c m h=>Cy (λx R h=>bw h λh=>y _ _ _ _ _ _ _ (λL s c h=>r _ _ _ _ _ _ _ m h) h) h|a u=>exactλv g k Q L s c m h=>b6 (Oe h) λl n p=>aP l n<|m _ _ _ p|f e o q=>refineλv g k Q L s c m h=>kz A _ _ _ _ _ _ (λv s c h=>?_) h;exact en (qo h) λl n p z=>⟨l,N7 m n p z⟩|i e u=>exactλv g k Q L s c m h=>kz A _ _ _ _ _ _ (λv s c h=>kz A _ _ _ _ _ _ (λw s c h=>dc (λj h=>Og m h) h) h) h
theorem KZ{α:Type}(l:U α)(g:α->V)(z:U α->U V->aB->aJ->Prop)(body:V->(dk->U V->av->Prop)->U V->av->Prop){K:eX}(m:∀f L s a,K f L s a->Q f L (aL s a))(y:∀p L s a,z p L s a->ho G s a (l.map g))(q:∀p x r L s a,l=p++x::r->z p L s a->∀P,(∀f L s a,f.f (z (p++[x]) L s a) (K .b L s a) (λv=>K (.c v) L s a)->P f L (aL s a))->body (g x) P L (aL s a))(M:∀L s a,z l L s a->K .b L s a):∀r p L s a,l=p++r->z p L s a->m6 G body (Z r+1) (Z p) Q L (aL s a):=by
 intro r;induction r with
 |nil=>intro p L s a i h;haveI A:=y _ _ _ _ h (Z p);rw[dI]at i;subst i;rw[gX (by simp)]at A;exact cf A<|m _ _ _ _<|M _ _ _ h
 |cons x r t=>
  intro p L s a i h;haveI A:=y _ _ _ _ h (Z p);rw[(by refine J i ?_;simp:(l.map g)[p.length]?=some (g x))]at A;haveI o:∀n X k,z (p++[x]) n X k->m6 G body (Z r+1) (Z p+1) Q n (aL X k):=by intro n X k j;haveI:=t (p++[x]) n X k (by refine J i ?_;simp) j;rw[bI]at this;exact this
  refine cf A<|q p x r L s a i h _ λf n X k j=>?_;induction f with|b=>exact o _ _ _ j|e=>exact o _ _ _ j|d=>exact m _ _ _ _ j|c v=>exact m _ _ _ _ j
theorem K1{z:O->U V->aB->aJ->Prop}(o:(ba->av->Prop)->U V->av->Prop)(body:(dk->U V->av->Prop)->U V->av->Prop){K:eX}(m:∀f L s a,K f L s a->Q f L (aL s a))(h:∀n L s a,z n L s a->∀P,(∀g s a,(g=ax->K .b L s a)->(g=an->∀P,(∀f L s a,f.f (∃m,m<n/\z m L s a) (K .b L s a) (λv=>K (.c v) L s a)->P f L (aL s a))->body P L (aL s a))->P g (aL s a))->o P L (aL s a)):∀N n L s a,n<N->z n L s a->oQ o body N Q L (aL s a):=by intro N;induction N with|zero=>exactλn p p p x p=>aA x<|my n|succ N q=>refineλn L s a x G=>h n L s a G _ λg X r A t=>?_;induction g with|false=>exact m _ _ _ _<|A I|true=>refine t I _ λf u X r i=>?_;induction f with|b=>exact ay i λk j l=>q k _ _ _ (zU x j) l|e=>exact ay i λk j l=>q k _ _ _ (zU x j) l|d=>exact m _ _ _ _ i|c v=>exact m _ _ _ _ i
theorem KB(A:hR C){g:V->am}(l:U V)(Q:U V->av->Prop)(h:∀x∈l,∀b,b (.a<|g x) s c->C f (n++[x]) (bJ b) (aL s c))(q:Q (l.map λx=>.a<|g x) (aL s c)):iB C f n l Q<|aL s c:=v5 A l Q h q
theorem CM(B:hR C):∀N y Q L s u,(∀z L s u,y z L s u->Q z L (aL s u))->bs C N y L s u->dH C N Q L (aL s u):=by intro N;induction N with|e=>exactλy Q L s u m A=>m _ _ _ _ A|d K S T W=>exactλy Q L s u m A=>T _ _ _ _ _ (λz L s u A=>DB (W _ _ _ _ _ m) (m _ _ _ _) A) A|b t D=>exactλy Q L s u m A=>kz B _ _ _ _ _ _ (λv s u A=>CE B _ _ _ _ _ _ _ _ (λL s u A=>m _ _ _ _ A) A) A|f D=>exactλy Q L s u m A=>kz B _ _ _ _ _ _ (λv s u A=>m _ _ _ _ A) A|a D=>exactλy Q L s u m A=>kz B _ _ _ _ _ _ (λv s u A=>m _ _ _ _ A) A|c t K S T W=>exactλy Q L s u m A=>kz B _ _ _ _ _ _ (λv s u A=>qa (T _ _ _ _ _ m) (W _ _ _ _ _ m) A) A|h t S X=>refineλy Q L s u m A=>bb ?_;intro p;obtain⟨q,F,M,G⟩:=A;exact⟨F+1,K1 _ _ m (λa' L s u A P R=>kz B _ _ _ _ _ _ (λv s u A=>jN (λr A=>R r _ _ A.2 λD P R=>X _ _ _ _ _ (λz L s u A=>R z L s u A)<|A.1 D) A)<|G a' L s u A) (F+1) F L s u (b7 F) M⟩|g t D S X=>refineλy Q L s u m A=>kz B _ _ _ _ _ _ (λv s u A=>?_) A;obtain⟨α,H,w,q,M,G,n,E⟩:=A;refine⟨Z H+1,KZ H w q _ m M (λb' x r L s u D A P R=>?_) E H [] L s u I G⟩;exact CE B _ _ _ _ _ _ _ _ (λL s u A=>X _ _ _ _ _ (λz L s u A=>R z L s u A) A)<|n b' x r L s u D A|j=>exactλy Q L s u m A=>m _ _ _ _ A|k=>exactλy Q L s u m A=>m _ _ _ _ A|i=>exactλy Q L s u m A=>A|l o' p' z q'=>refineλy Q L s u m A=>bb ?_;intro p;refine ay (yB A) λv M G=>dd (qv G.1) λo H o c' o=>cf M<|cf c'<|kz B _ _ _ _ _ _ (λr' s u A=>aM (qo A) λn E=>?_) G.2;refine⟨n,s8 E λF E=>bb ?_⟩;intro p;exact RB E λH E d' e' w f' g'=>cf (h6 E)<|aP d' e'<|KB B H _ (λx h' i' j'=>f' x h' i' j') ⟨λF k'=>by exact ay (bL.mp k') λx o l'=>az l' ⟨_,I⟩,λm' n'=>m _ _ _ _<|g' m' n'⟩
def ov:U V->ba|[]=>an|.d::_=>ax|_::r=>ov r
theorem Cp:ov l=an->∀v∈l,v≠.d:=by
 induction l with
 |nil=>exactλh w t=>aC t ar
 |cons v r a=>
  intro h w t;rcases cu.mp t with rfl|t
  .intro e;subst e;exact tB h
  .exact a (by induction v using V.casesOn<;>first|exact h|exact tB h) w t
theorem cb{K:br}(T:a2 f=Y a)(x:Z Q=a.d)(b:ov Q=an)(h:bs (aO a2 d) a.b (eg K) (a.a Q) s c):aO a2 (d+1) f Q (bJ K)<|aL s c:=cf T ⟨x,Cp b,CM (jz a2 d) _ _ _ _ _ _ (λe L s c h=>by induction e<;>first|exact dr _ _ I h|exact be h) h⟩
def bt(n:O)(x:am):Prop:=x≠0/\ao x<=n
def a4(a:O->am)(x:am):am:=if 0<x then a (ao x)else-(a (ao x))
def bK(x:am):O:=if 0<x then 2*ao x else 2*ao x+1
def ib(x:am):am:=if 0<x then 1 else-1
theorem bt.v(h:bt a x):bt a<|-x:=⟨Int.neg_ne_zero.mpr h.1,by rw[du];exact h.2⟩
theorem fI(h:x≠0):a4 a (-x)=-a4 a x:=by
 delta a4;rw[du];refine aE (Ep h) (λh=>?_) λh=>J (a9 h)<|J (bf λg=>tF h<|xp.mp g) I
 .rw[a9<|xp.mpr h,bf<|tF h,fl]
theorem BV{a:O->am}{x:am}:a4 a x=a (ao x)\/a4 a x=-a (ao x):=by
 delta a4;split
 .exact aK I
 .exact a1 I
theorem c7:a4 a x=0↔a (ao x)=0:=by refine aE (@BV a x) (λh=>?_) λh=>?_<;>rw[h];exact Int.neg_eq_zero
theorem v9(h:ao x≠v):a4 (aw a v y) x=a4 a x:=by delta a4;exact J (show aw a v y (ao x)=a (ao x)from bf h) I
theorem kt:a4 (aw a (ao x)<|ib x) x=1:=by delta a4;refine J (show aw a (ao x) (ib x) (ao x)=ib x from a9 I) ?_;delta ib;split<;>rfl
theorem ni(h:a (ao x)=b (ao x)):a4 a x=a4 b x:=by delta a4;exact J h I
theorem gd(h:ao x=ao y):x=y\/x=-y:=Int.natAbs_eq_natAbs_iff.mp h
theorem dB{α:Type}{l:U α}{x:α}(h:l[i]?=Y x):i<Z l:=(lH.mp h).1
theorem km{α:Type}{l:U α}{x y:α}(c:(l++[y])[i]?=Y x):l[i]?=Y x\/(i=Z l/\x=y):=by
 rcases tP i (Z l)with d|d|d
 .replace c:=(lG d)▸c;exact aK c
 .subst d;simp at c;exact a1 ⟨I,c.symm⟩
 .rw[gX (by simp;exact(aq [1,1] I:ap 2 0 [.e .a .b] (.g (.h .a) .b)) d)]at c;exact be (nomatch c:bW)
theorem li{α:Type}{l r:U α}{i:O}{x:α}(h:l[i]?=Y x):(l++r)[i]?=Y x:=J (lG<|dB h) h
theorem p3{α:Type}{l:U α}{y:α}:(l++[y])[(Z l)]?=Y y:=by simp
theorem kn{α:Type}{l:U α}{x:α}:(l.take m)[i]?=Y x↔i<m/\l[i]?=Y x:=by
 refine J List.getElem?_take ?_;split
 .next h=>exact⟨λg=>⟨h,g⟩,λg=>g.2⟩
 .next h=>exact⟨λg=>aC g ar,λg=>aA g.1 h⟩
theorem JV{α:Type}{l:U α}{x:α}(h:l[i]?=Y x)(T:m<=i):x∈l.drop m:=by rw[kR];exact⟨i-m,J Sr<|J (Nat.add_sub_cancel' T) h⟩
theorem Ca{α:Type}{l:U α}{x:α}(h:x∈l.drop m):∃i,m<=i/\l[i]?=Y x:=by refine bH (kR.mp h) λi h=>?_;rw[Sr]at h;exact aF (m+i) (js ..) h
structure bG(n:O)(t:b3):Prop where
 s:∀(i:O)(x:am),t.a[i]?=Y x->bt n x/\a4 t.b x=1/\t.h (ao x)=i
 c:∀v:O,v<=n->t.b v≠0->∃(i:O)(x:am),t.a[i]?=Y x/\ao x=v
 d:∀x∈t.f,0<=x/\x<=Z t.a/\x<=t.g
 f:t.f.Pairwise (·<=·)
 a:∀v:O,v<=n->t.b v≠0->0<=t.e v/\t.e v<=Z t.f
 b:∀v:O,v<=n->t.b v≠0->∀(k:O)(x:am),t.f[k]?=Y x->(t.h v<x↔t.e v<=k)
 l:0<=t.g/\t.g<=Z t.a
end
section
variable{n:O}{t:b3}
mutual
theorem bG.h(T:bG n t){i:O}(a:t.a[i]?=Y A):t.b (ao A)≠0:=λe=>by haveI:=(T.s i A a).2.1;rw[c7.mpr e]at this;exact aA this as
theorem bG.x(T:bG n t)(M:bt n B)(h:a4 t.b B≠0):(a4 t.b B=1/\∃A:O,t.a[A]?=Y B)\/(a4 t.b B=-1/\∃A:O,t.a[A]?=Y (-B)):=by
 refine cF (T.c _ M.2 λe=>h<|c7.mpr e) λA y a b=>?_;rcases gd b with rfl|rfl
 .exact aK ⟨(T.s A _ a).2.1,A,a⟩
 .have:=(T.s A _ a).2.1;rw[fI M.1]at this;exact a1 ⟨sb this,A,a⟩
theorem bG.y(T:bG n t)(M:bt n A)(h:a4 t.b A=-1):∃B:O,t.a[B]?=Y (-A):=by
 refine aE (T.x M<|J h as) (λX=>aM X λg p=>?_) λX=>aM X λp h=>h
 .rw[h]at g;exact aA g as
theorem bG.w(T:bG n t)(M:bt n A):a4 t.b A=0\/a4 t.b A=1\/a4 t.b A=-1:=aE (eo<|a4 t.b A=0) (λh=>aK h) λh=>aE (T.x M h) (λh=>a1<|aK h.1) λh=>a1<|a1 h.1
theorem bG.m(T:bG n t){i j:O}(h:t.a[i]?=Y A)(g:t.a[j]?=Y B)(e:ao A=ao B):i=j/\A=B:=by haveI a:=(T.s i A h).2.2;rw[e]at a;haveI:i=j:=de<|bx a.symm (T.s j B g).2.2;subst this;rw[h]at g;exact⟨I,bE g⟩
theorem bG.u(T:bG n t)(M:a4 t.b A=0){i:O}(h:t.a[i]?=Y B):ao B≠ao A:=λe=>T.h h<|J e<|c7.mp M
theorem bG.p(T:bG n t):b0 (t.a.map ao):=by rw[b0,iP];intro f j y s d c;rw[bv]at y s;simp only[List.getElem_map]at c;exact(aq [1,0,1] I:ap 2 0 [.e .a .b,.a .a .b] .i) d (T.m (cl y) (cl s) c).1
theorem bG.k(T:bG n t):Z t.a<=n:=by
 haveI c:(t.a.map ao)⊆(b2 n).map (·+1):=λv P=>by refine ay (bL.mp P) λx M W=>az W<|bb ?_;intro p;obtain⟨i,y⟩:=kR.mp M;exact aM (T.s i x y) λs e=>aM s λA d=>bL.mpr<|aF (ao x-1) (ed.mpr<|n4 d<|cy<|z5 A oY qh)<|(dR [1,1] [1,0,1] I I:ap 2 0 [.a (.h .a) .b] (.a (.h .a) .b))<|cy<|z5 A oY qh
 simpa using(hx T.p c)
theorem bG.z(T:bG n t):t.b 0=0:=jl λh=>cF (T.c 0 (f7 _) h) λi x A a=>(T.s i x A).1.1<|Et.mp a
def b3.i(t:b3)(x c:am):b3:=⟨aw t.b (ao x)<|ib x,aw t.e (ao x) (Z t.f),aw t.j (ao x) c,aw t.h (ao x) (Z t.a),t.a++[x],t.f,t.g⟩
theorem aG{f:O->α}{x:α}(h:w≠v):aw f v x w=f w:=bf h
theorem aR{f:O->α}{x:α}:aw f v x v=x:=a9 I
theorem bG.i(T:bG n t)(z:am)(M:bt n A)(w:a4 t.b A=0):bG n<|t.i A z where
 s r y h:=by
  rcases km h with h|⟨rfl,rfl⟩
  .exact b6 (T.s r y h) λo p Q=>⟨o,(v9<|T.u w h).trans p,(aG<|T.u w h).trans Q⟩
  .exact aP M kt aR
 c v P h:=by
  by_cases m:v=ao A
  .exact dr _ A p3 m.symm
  .exact cF (T.c v P (by rw[<-aG (f:=t.b) m];exact h)) λr y o p=>dr r y (li o) p
 d y q:=b6 (T.d y q) λo p Q=>aP o (J bI<|ey p<|eb.mpr<|js ..) Q
 f:=T.f
 a v P h:=by
  by_cases m:v=ao A
  .refine J m ?_;show 0<=aw _ _ _ _/\aw _ _ _ _<=_;exact J aR ⟨eT _,gz _⟩
  .show 0<=aw _ _ _ _/\aw _ _ _ _<=_;exact J (aG m)<|T.a v P (by rw[<-aG (f:=t.b) m];exact h)
 b v P h k y q:=by
  by_cases m:v=ao A
  .refine J m ?_;show aw _ _ _ _<y↔aw _ _ _ _<=_;exact J aR<|J aR ⟨λu=>aA (T.d y<|dZ q).2.1<|(aq [1,1] I:ap 1 1 [.b .g .a] (.f<|.d .a .g)) u,λu=>aA u<|(aq [1,1] I:ap 2 0 [.e .a .b] (.f<|.d .j .g)) (dB q:k<Z t.f)⟩
  .show aw _ _ _ _<y↔aw _ _ _ _<=_;exact(aG m).symm▸(J (aG m)<|T.b v P (az (aG (f:=t.b) m) h) k y q)
 l:=⟨T.l.1,J bI<|ey T.l.2<|eb.mpr<|js ..⟩
def b3.o(t:b3):b3:={t with f:=t.f++[(Z t.a:am)]}
theorem bG.e(T:bG n t)(P:A<=n)(h:t.b A≠0):0<=t.h A/\t.h A<Z t.a:=cF (T.c A P h) λi y a M=>az M<|J (T.s i y a).2.2 ⟨eT _,eN.mpr<|dB a⟩
theorem bG.o(T:bG n t)(g:t.g=Z t.a):bG n t.o where
 s:=T.s
 c:=T.c
 d y e:=by
  rcases cK.mp e with e|e
  .exact T.d y e
  .exact J (b9.mp e)<|aP (eT _) (gz _)<|jm g.symm
 f:=qR.mpr<|aP T.f (xG ..) λi j q m=>J (b9.mp m) (T.d i j).2.1
 a v P h:=⟨(T.a v P h).1,J bI<|ey (T.a v P h).2<|eb.mpr<|js ..⟩
 b v P h k y e:=by
  rcases km e with e|⟨rfl,rfl⟩
  .exact T.b v P h k y e
  .exact⟨λp=>(T.a v P h).2,λp=>(T.e P h).2⟩
 l:=T.l
def cE{α:Type}(f:O->α)(l:U am)(d:α)(v:O):α:=if∃y∈l,ao y=v then d else f v
def b3.r(t:b3)(k m:O):b3:=⟨cE t.b (t.a.drop m) 0,t.e,cE t.j (t.a.drop m)<|-1,t.h,t.a.take m,t.f.take k,min t.g m⟩
theorem tv{f:O->α}{d:α}(h:∃y∈l,ao y=v):cE f l d v=d:=a9 h
theorem iH{f:O->α}{d:α}(h:¬∃y∈l,ao y=v):cE f l d v=f v:=bf h
theorem bG.j(T:bG n t)(h:t.a[B]?=Y C)(c:B<D):¬∃A∈t.a.drop D,ao A=ao C:=λX=>ay X λA d k=>ay (Ca d) λp l o=>(aq [1,1,1] I:ap 3 0 [.e .a .b,.g .b .f,.a .f .a] .i) c l (T.m o h k).1
theorem bG.q(T:bG n t)(P:A<=n)(h:cE t.b (t.a.drop B) 0 A≠0):t.b A≠0/\t.h A<B/\cE t.b (t.a.drop B) 0 A=t.b A/\cE t.j (t.a.drop B) (-1) A=t.j A:=by
 refine aE (eo<|∃y∈t.a.drop B,ao y=A) (λg=>aA (tv g) h) λg=>?_
 .rw[iH g]at h;refine⟨h,cF (T.c A P h) λi x a M=>?_,iH g,iH g⟩;subst M;exact J (T.s i x a).2.2<|eN.mpr<|EM λb=>g<|aF x (JV a b) I
theorem bG.r(T:bG n t){k m:O}(h:t.f[k]?=Y (m:am)):bG n<|t.r k m where
 s i x M:=aM (kn.mp M) λA e=>b6 (T.s i x e) λQ p o=>aP Q ((ni<|iH<|T.j e A).trans p) o
 c v P g:=by refine b6 (T.q P g) λA e u=>cF (T.c v P A) λi x Q w=>?_;subst w;replace e:=((T.s i x Q).2.2)▸e;exact dr i x (kn.mpr ⟨eN.mp e,Q⟩) I
 d x M:=by
  refine bb ?_;intro D;refine bH (kR.mp M) λi y=>aM (kn.mp y) λA e=>b6 (T.d x<|dZ e) λQ p o=>?_;haveI q:x<=m:=by refine bH (lH.mp e) λX z=>bH (lH.mp h) λB C=>?_;haveI:=iP.mp T.f i k X B A;rw[z,C]at this;exact this
  exact aP Q (J lI<|J (iS<|eb.mp (T.d _<|dZ h).2.1) q)<|R7.mpr ⟨o,q⟩
 f:=T.f.sublist<|List.take_sublist ..
 a v P g:=b6 (T.q P g) λA e u=>⟨(T.a v P A).1,J lI<|J (iS<|f4<|dB h)<|(T.b v P A k m h).mp e⟩
 b v P g j x M:=T.b v P (T.q P g).1 j x (kn.mp M).2
 l:=⟨R7.mpr ⟨T.l.1,eT _⟩,J lI<|J (iS<|eb.mp (T.d _<|dZ h).2.1)<|Int.min_le_right ..⟩
end
end
mutual
abbrev db:=O->U am
def fQ(t:b3)(b y:am):Prop:=a4 t.b y=-1/\t.h (ao y)<b
def jB(t:b3)(l:U am)(b:am):Prop:=(∃y∈l,a4 t.b y=1/\t.h (ao y)<b)\/∃y∈l,∃z∈l,y≠z/\¬fQ t b y/\¬fQ t b z
def hD(t:b3)(l:U am)(v:O):Prop:=(∃x∈l,ao x=v/\a4 t.b x=1)/\∀y∈l,ao y≠v->fQ t (t.h v) y
structure cT(n:O)(A:U am)(t:b3)(b:O)(a:db):Prop where
 f:∀v:O,v<=n->t.b v≠0->(t.j v=-1/\t.h v∈t.f)\/∃c:O,t.j v=c/\c<b/\hD t (a c) v
 d:∀c:O,c<b->(∀y∈a c,bt n y)/\b0 ((a c).map ao)
 l:∀(k:O)(x:am),t.f[k]?=Y x->∀c:O,c<b->jB t (a c) x
 m:∀v:O,v<=n->t.b v≠0->t.j v=-1->t.e v<=Z A->∃y∈A,ao y=v/\a4 t.b y=1
 p:∀(k:O)(y:am),A[k]?=Y y->k<Z t.f->bt n y/\a4 t.b y=1/\t.e (ao y)<=k+1
 h:∀(k:O)(x:am),t.f[k]?=Y x->(k:am)<=Z A+x
structure mR(n:O)(t:b3)(b:O)(a:db):Prop where
 f:∀v:O,v<=n->t.b v≠0->(t.j v=-1/\t.h v∈t.f)\/∃c:O,t.j v=c/\c<b/\hD t (a c) v
 d:∀c:O,c<b->(∀y∈a c,bt n y)/\b0 ((a c).map ao)
 l:∀(k:O)(x:am),t.f[k]?=Y x->∀c:O,c<b->jB t (a c) x
theorem cT.j(h:cT s z u w y):mR s u w y:=⟨h.f,h.d,h.l⟩
def iq(A:U am)(t:b3):Prop:=Z t.f<=Z A+Z t.a
def ew(t:b3)(b:O)(a:db):Prop:=∀c:O,c<b->a c≠[]/\∀d,a c=[d]->a4 t.b d=1/\t.e (ao d)=0
def pC(l:U am)(p:O):Prop:=∃a b r,l=a::b::r/\(bK a=p\/bK b=p)
structure eF(b:O)(a:db)(G:O->U am):Prop where
 g:∀p,(b0 (G p))
 h:∀(p:O)(m:am),m∈G p↔∃c:O,m=c/\c<b/\pC (a c) p
def jD(t:b3)(h a b:am):Prop:=fQ t h a->a4 t.b b=1/\t.e (ao b)<=t.e (ao a)
def ck(t:b3)(b:O)(a:db)(h:am):Prop:=∀c:O,c<b->∀d e r,a c=d::e::r->jD t h d e/\jD t h e d
theorem ls{l:U am}(h:(b0 (l.map ao)))(M:d∈l)(b:y∈l)(e:ao d=ao y):d=y:=by
 obtain⟨i,a,rfl⟩:=kO M;obtain⟨j,s,rfl⟩:=kO b;rw[b0,iQ]at h;have p:=iP.mp h;rcases tP i j with q|q|q
 .exact aA e<|p i j a s q
 .subst q;rfl
 .exact aA e.symm<|p j i s a q
theorem hk{l:U am}(P:∀y∈l,bt n y)(h:(b0 (l.map ao))):Z l<=n:=by haveI:=hx (l₂:=(b2 n).map (·+1)) h λv a=>ay (bL.mp a) λx M W=>az W<|aM (P x M) λA i=>haveI Q:=jn.mpr A;bL.mpr<|aF (ao x-1) (ed.mpr<|n4 i<|cy<|k8 Q)<|cy Q;rwa[bv,bv,ec]at this
end
section
variable{n:O}{A:U am}{t:b3}{b:O}{a:db}{x c:am}
mutual
theorem qj(q:a4 t.b x=0)(h:a4 t.b y≠0):ao y≠ao x:=λe=>h<|c7.mpr<|J e<|c7.mp q
theorem fQ.g(h:fQ t d y):a4 t.b y≠0:=J h.1 as
theorem p0(q:a4 t.b x=0){b y:am}(a:b<=Z t.a):fQ (t.i x c) b y↔fQ t b y:=by
 by_cases e:ao y=ao x
 .exact⟨λh=>aA h.2 (J e<|J aR<|gW.mpr a:¬(aw t.h (ao x) _ (ao y)<b)),λh=>aA e<|qj q h.g⟩
 .show a4 (aw _ _ _) y=_/\aw _ _ _ _<_↔_;refine J (v9 e)<|J (aG e) ?_;rfl
theorem hY(q:a4 t.b x=0)(a:a4 t.b y≠0):a4 (t.i x c).b y=a4 t.b y/\(t.i x c).h (ao y)=t.h (ao y)/\(t.i x c).e (ao y)=t.e (ao y):=aP (v9<|qj q a) (aG<|qj q a)<|aG<|qj q a
theorem iD:(1:am)≠0:=as
theorem H5(q:a4 t.b x=0){b:am}(a:b<=Z t.a)(h:jB t l b):jB (t.i x c) l b:=by
 refine bb ?_;intro p;rcases h with⟨y,A,i,Q⟩|⟨y,A,z,i,Q,d,e⟩
 .exact aK ⟨y,A,(hY q<|i▸iD).1.trans i,J (hY q<|i▸iD).2.1 Q⟩
 .exact a1<|p6 y A z i Q (λg=>d<|(p0 q a).mp g) λg=>e<|(p0 q a).mp g
theorem H6(T:bG n t)(q:a4 t.b x=0)(P:v<=n)(s:t.b v≠0)(h:hD t l v):hD (t.i x c) l v:=by refine bb ?_;intro p;refine aM h λa b=>?_;obtain⟨y,A,i,Q⟩:=a;exact⟨bO y A i<|(hY q<|J Q iD).1.trans Q,λy d f=>(J (aG (λe=>s<|J e<|c7.mp q:v≠ao x))<|(p0 q<|jY (T.e P s).2).mpr<|b y d f:fQ _ (aw _ _ _ _) _)⟩
theorem vK(h:(t.i x c).b v≠0):v=ao x\/(v≠ao x/\t.b v≠0):=by
 by_cases e:v=ao x
 .exact aK e
 .exact a1 ⟨e,λg=>h<|(aG e).trans g⟩
theorem mR.i(T:bG n t)(h:mR n t b a)(M:bt n x)(q:a4 t.b x=0)(C:(c=-1/\(Z t.a:am)∈t.f)\/∃m:O,c=m/\m<b/\x∈a m/\∀y∈a m,y≠x->a4 t.b y=-1):mR n (t.i x c) b a where
 f v P s:=by
  rcases vK s with rfl|⟨e,s⟩
  .show(aw _ _ _ _=_/\aw _ _ _ _∈_)\/∃c,aw _ _ _ _=_/\_;exact aR.symm▸(J aR<|aE C (λX=>aM X λA g=>aK ⟨A,g⟩) λX=>dC X λm A g Q p=>a1 ⟨m,A,g,bO x Q I kt,λy j r=>have o:=p y j λe=>r<|az e I;(J aR<|(p0 q<|gz _).mpr ⟨o,(T.e ((h.d m g).1 y j).2 λe=>aA (c7.mpr e)<|J o as).2⟩:fQ _ (aw _ _ _ _) _)⟩)
  .show(aw _ _ _ _=_/\aw _ _ _ _∈_)\/∃c,aw _ _ _ _=_/\_;exact(aG e).symm▸(J (aG e)<|aE (h.f v P s) (λA=>aK A) λX=>ch X λm A g Q=>a1<|bO m A g<|H6 T q P s Q)
 d:=h.d
 l k y j m u:=H5 q (T.d y<|dZ j).2.1<|h.l k y j m u
theorem cT.i(T:bG n t)(q:cT n A t b a)(M:bt n x)(r:a4 t.b x=0)(C:(c=-1/\(Z t.a:am)∈t.f/\(Z t.f<=Z A->x∈A))\/∃s:O,c=s/\s<b/\x∈a s/\∀y∈a s,y≠x->a4 t.b y=-1):cT n A (t.i x c) b a where
 f:=(q.j.i T M r<|C.imp (λg=>⟨g.1,g.2.1⟩) id).f
 d:=q.d
 l:=(q.j.i T M r<|C.imp (λg=>⟨g.1,g.2.1⟩) id).l
 m v P z H w:=by
  rcases vK z with rfl|⟨B,z⟩
  .rw[show(t.i x c).j (ao x)=c from aR]at H;rw[show(t.i x c).e (ao x)=Z t.f from aR]at w;refine bb ?_;intro G;refine aE C (λX=>b6 X λD D o=>bO x (o<|eb.mp w) I kt) λX=>ay X λs o D=>?_
   .rw[o]at H;exact aA H<|@FZ _
  .rw[show(t.i x c).j v=t.j v from aG B]at H;rw[show(t.i x c).e v=t.e v from aG B]at w;exact ch (q.m v P z H w) λy o u Q=>bO y o u<|(hY r<|J Q iD).1.trans Q
 p k y E F:=b6 (q.p k y E F) λo u Q=>⟨o,(hY r<|u▸iD).1.trans u,J (hY r<|u▸iD).2.2 Q⟩
 h:=q.h
theorem ew.i(h:ew t b a)(q:a4 t.b x=0):ew (t.i x c) b a:=λm T=>⟨(h m T).1,λd s=>aM ((h m T).2 d s) λA e=>⟨(hY q<|A▸iD).1.trans A,(hY q<|A▸iD).2.2.trans e⟩⟩
theorem jD.i(q:a4 t.b x=0){b a d:am}(e:b<=Z t.a)(h:jD t b a d):jD (t.i x c) b a d:=λg=>have g:=(p0 q e).mp g;aM (h g) λA f=>⟨(hY q<|A▸iD).1.trans A,J (hY q<|A▸iD).2.2<|J (hY q g.g).2.2 f⟩
theorem ck.i(q:a4 t.b x=0){d:am}(f:d<=Z t.a)(h:ck t b a d):ck (t.i x c) b a d:=λm T g j r e=>⟨(h m T g j r e).1.i q f,(h m T g j r e).2.i q f⟩
theorem Nq(x:(b0 (l.map ao)))(P:∀y∈l,bt n y)(T:bG n t)(A:l≠[])(k:∀d,l=[d]->a4 t.b d=1)(Q:∀d f r,l=d::f::r->jD t (Z t.a) d f/\jD t (Z t.a) f d):jB t l (Z t.a):=by
 have c:∀y,bt n y->a4 t.b y=1->t.h (ao y)<Z t.a:=λy o h=>(T.e o.2 λe=>aA (c7.mpr e)<|J h as).2;induction l using gn with
 |nil=>exact aA I A
 |cons d l=>
  induction l using gn with
  |nil=>exact aK<|bO d (gA _) (k d I)<|c d (P d<|gA _)<|k d I
  |cons f r=>
   haveI s:d∈d::f::r:=bu ..;haveI g:f∈d::f::r:=cm _<|bu ..;refine aM (Q d f r I) λX m=>?_;by_cases i:fQ t (Z t.a) d
   .exact aK<|bO f g (X i).1<|c f (P f g) (X i).1
   .by_cases j:fQ t (Z t.a) f
    .exact aK<|bO d s (m j).1<|c d (P d s) (m j).1
    .refine a1<|p6 d s f g (λe=>?_) i j;rw[iO,dO]at x;exact x.1<|J e<|fM<|bu ..
theorem mR.o(T:bG n t)(h:mR n t b a)(j:ck t b a (Z t.a))(i:ew t b a):mR n t.o b a where
 f v P s:=aE (h.f v P s) (λX=>aM X λA m=>aK ⟨A,ii _ m⟩) λA=>a1 A
 d:=h.d
 l k x M c g:=by
  rcases km M with M|⟨rfl,rfl⟩
  .exact h.l k x M c g
  .exact(Nq (h.d c g).2 (h.d c g).1 T (i c g).1 (λp e=>((i c g).2 p e).1)<|j c g:jB t _ _)
theorem cT.o(T:bG n t)(c:cT n A t b a)(u:iq A t)(i:ck t b a (Z t.a))(j:ew t b a)(v:∀y,A[(Z t.f)]?=Y y->bt n y/\a4 t.b y=1):cT n A t.o b a where
 f:=(c.j.o T i j).f
 d:=c.d
 l:=(c.j.o T i j).l
 m:=c.m
 p k y q C:=by
  rw[show Z t.o.f=Z t.f+1 from bI]at C;refine aE (f6 k (Z t.f)) (λg=>c.p k y q g) λg=>?_
  .obtain rfl:k=Z t.f:=tM (kU C) g;obtain⟨r,s⟩:=v y q;exact⟨r,s,ey (T.a _ r.2 λe=>aA (c7.mpr e)<|J s as).2<|@F4 _⟩
 h k x M:=by
  rcases km M with M|⟨rfl,rfl⟩
  .exact c.h k x M
  .exact eb.mpr u
theorem cT.k(T:bG n t)(m:cT n A t b a)(c:iq A t)(w:ck t b a (Z t.a))(z:ew t b a)(B:t.g=Z t.a)(M:bt n x)(q:a4 t.b x=0)(G:Z t.f<Z A->x∈A)(s:∀y,A[(Z t.f)]?=Y y->y=x):cT n A (t.o.i x<|-1) b a:=by
 refine⟨((m.j.o T w z).i (T.o B) M q<|aK ⟨I,dN _<|gA _⟩).f,((m.j.o T w z).i (T.o B) M q<|aK ⟨I,dN _<|gA _⟩).d,((m.j.o T w z).i (T.o B) M q<|aK ⟨I,dN _<|gA _⟩).l,λv P s E c=>?_,λo y F C=>?_,λo y C=>?_⟩
 .rcases vK s with rfl|⟨r,s⟩
  .replace c:=(show Z t.o.f=Z t.f+1 from bI)▸(show(t.o.i x<|-1).e (ao x)=Z t.o.f from aR)▸c;exact bO x (G<|(aq [1,1] I:ap 2 0 [.d (.p<|.h .a) .j] (.e .a .b)) c) I kt
  .rw[show(t.o.i x<|-1).j v=t.j v from aG r]at E;rw[show(t.o.i x<|-1).e v=t.e v from aG r]at c;exact ch (m.m v P s E c) λy D u Q=>bO y D u<|(hY (t:=t.o) q<|J Q iD).1.trans Q
 .rw[show Z (t.o.i x<|-1).f=Z t.f+1 from bI]at C;rcases f6 o (Z t.f)with g|g
  .exact b6 (m.p o y F g) λD u Q=>haveI r:=hY (t:=t.o) q<|J u as;aP D (r.1.trans u)<|J r.2.2 Q
  .obtain rfl:o=Z t.f:=tM (kU C) g;obtain rfl:=s y F;exact aP M kt<|J (show(t.o.i y<|-1).e (ao y)=Z t.o.f from aR)<|J (show Z t.o.f=Z t.f+1 from bI)<|gz _
 .rcases km C with M|⟨rfl,rfl⟩
  .exact m.h o y M
  .exact eb.mpr c
theorem l6(T:bG n t)(l:bt n y):(a4 (t.r k m).b y≠0↔a4 t.b y≠0/\t.h (ao y)<m)/\(a4 (t.r k m).b y≠0->a4 (t.r k m).b y=a4 t.b y):=by haveI D:a4 (t.r k m).b y≠0->a4 t.b y≠0/\t.h (ao y)<m/\a4 (t.r k m).b y=a4 t.b y:=λh=>en (T.q l.2 λd=>h<|c7.mpr d) λA f Q p=>aP (λd=>A<|c7.mp d) f<|ni Q;refine⟨⟨λh=>⟨(D h).1,(D h).2.1⟩,λh d=>cF (T.c (ao y) l.2 λd=>h.1<|c7.mpr d) λi z A f=>?_⟩,λh=>(D h).2.2⟩;haveI Q:=(T.s i z A).2.2;replace Q:=f▸Q;exact h.1<|az d (ni<|iH<|az f<|T.j A<|(aq [1,1,0,1] I:ap 2 1 [.b .a .g,.c .a .j] (.e .b .a)) h.2 Q).symm
theorem vw(T:bG n t){m k:O}{b y:am}(a:bt n y)(c:b<=m):fQ (t.r k m) b y↔fQ t b y:=aM (l6 T a) λA i=>⟨λh=>⟨(i h.g).symm.trans h.1,h.2⟩,λh=>⟨(i<|A.mpr ⟨h.g,qL h.2 c⟩).trans h.1,h.2⟩⟩
theorem pT(T:bG n t){m k:O}(a:bt n y)(h:a4 t.b y=1)(A:t.h (ao y)<m):a4 (t.r k m).b y=1:=((l6 T a).2<|(l6 T a).1.mpr ⟨J h iD,A⟩).trans h
theorem QN(T:bG n t){k j m:O}(h:t.f[k]?=Y (m:am))(s:t.f[j]?=Y y)(x:y<m):j<k:=by
 refine EM λq=>?_;obtain⟨X,l⟩:=lH.mp h;obtain⟨z,e⟩:=lH.mp s;rcases SR q with rfl|q
 .rw[l]at e;exact aA x<|(aq [1,1] I:ap 1 1 [.c .g .a] (.f<|.b .a .g)) e
 .haveI:=iP.mp T.f k j X z q;rw[l,e]at this;exact(aq [1,1] I:ap 1 1 [.b .a .g,.d .g .a] .i) x this
theorem QM(T:bG n t){k j m:O}(h:t.f[k]?=Y (m:am))(s:t.f[j]?=Y y)(x:j<k):y<=m:=by refine bH (lH.mp h) λX a=>bH (lH.mp s) λz b=>?_;haveI:=iP.mp T.f j k z X x;replace this:=b▸a▸this;exact this
theorem cT.r(T:bG n t)(x:cT n A t b a){k H:O}(K:t.f[k]?=Y (H:am)):cT n A (t.r k H) b a where
 f v P L:=by
  refine en (T.q P L) λq i Q B=>J (show(t.r k H).j v=t.j v from B)<|bb ?_;intro W;rcases x.f v P q with⟨o,C⟩|⟨c,o,C,⟨y,D,R,X⟩,a'⟩
  .obtain⟨E,u⟩:=kR.mp C;exact aK ⟨o,dZ<|kn.mpr ⟨QN T K u i,u⟩⟩
  .have F:=(x.d c C).1;exact a1<|bO c o C ⟨⟨y,D,R,pT T (F y D) X<|J R i⟩,λz S b'=>(vw T (F z S)<|jY i).mpr<|a' z S b'⟩
 d:=x.d
 l E y G c F:=by
  refine bb ?_;intro W;obtain⟨q,i⟩:=kn.mp G;haveI M:=QM T K i q;have P:=(x.d c F).1;rcases x.l E y i c F with⟨z,Q,B,o⟩|⟨z,Q,w,B,o,C,D⟩
  .exact aK<|bO z Q (pT T (P z Q) B<|qL o M) o
  .exact a1<|p6 z Q w B o (λN=>C<|(vw T (P z Q) M).mp N) λN=>D<|(vw T (P w B) M).mp N
 m v P L c' d':=by refine en (T.q P L) λq i Q B=>ch (x.m v P q (az B c') d') λy o C D=>?_;subst C;exact bO y o I<|(ni Q).trans D
 p E y G u:=by have u:=u;replace u:=lI▸u;exact b6 (x.p E y G<|yY u<|EN _ _) λq i Q=>aP q (pT T q i<|(T.b _ q.2 (λe'=>aA (c7.mpr e')<|J i as) k H K).mpr<|(aq [1,1,1,1] I:ap 3 1 [.e .a .b,.d .a<|.h .g,.g .b .f] (.d .a .s)) u Q<|SX _ _) Q
 h E y G:=x.h E y (kn.mp G).2
theorem iq.r(T:bG n t)(h:cT n A t b a){k m:O}(C:t.f[k]?=Y (m:am)):iq A<|t.r k m:=(J lI<|J lI<|J (iS<|f4<|dB C)<|J (iS<|eb.mp (T.d _<|dZ C).2.1)<|eb.mp<|h.h k m C:Z (t.f.take k)<=_+Z (t.a.take m))
theorem iq.i(h:iq A t):iq A<|t.i x c:=aH h<|J bI<|iR (js ..) _
theorem ew.r(T:bG n t)(P:∀c,c<b->∀y∈a c,bt n y)(h:ew t b a){k m:O}(C:t.f[k]?=Y (m:am)):ew (t.r k m) b a:=λc d=>⟨(h c d).1,λf e=>aM ((h c d).2 f e) λA i=>haveI s:=P c d f<|J e<|gA _;⟨pT T s A<|(T.b _ s.2 (λe=>aA (c7.mpr e)<|J A as) k m C).mpr<|y1 i,i⟩⟩
theorem ck.r(T:bG n t)(P:∀c,c<b->∀d∈a c,bt n d)(h:ck t b a f){k m:O}(C:t.f[k]?=Y (m:am)):ck (t.r k m) b a f:=haveI D:=λi j s l w g=>have p:=(l6 T s).1.mp g.g;aM (w ⟨((l6 T s).2 g.g).symm.trans g.1,g.2⟩) λA q=>⟨pT T l A<|(T.b _ l.2 (λe=>aA (c7.mpr e)<|J A as) k m C).mpr<|ey q<|(T.b _ s.2 (λe=>p.1<|c7.mpr e) k m C).mp p.2,q⟩;λc o i j u e=>haveI s:=P c o i<|J e<|bu ..;haveI l:=P c o j<|J e<|cm _<|bu ..;⟨D i j s l (h c o i j u e).1,D j i l s (h c o i j u e).2⟩
theorem ck.g(h:ck t b a d)(j:f<=d):ck t b a f:=λc k l m r e=>⟨λi=>(h c k l m r e).1 ⟨i.1,qL i.2 j⟩,λi=>(h c k l m r e).2 ⟨i.1,qL i.2 j⟩⟩
end
end
section
variable{n:O}{A:U am}{t:b3}{b:O}{a f:db}{c:O->U am}
mutual
def gq(b:O)(a f:db):Prop:=∀c:O,c<b->(f c).Perm (a c)
theorem gq.j:gq b a a:=λp p=>qO _
theorem gq.i(h:gq b a f)(g:gq b f l):gq b a l:=λc d=>(g c d).trans<|h c d
theorem gq.k(h:l.Perm (a o)):gq b a<|aw a o l:=λc p=>by
 by_cases e:c=o
 .exact J e<|J aR h
 .rw[aG e]
theorem hD.q(p:i.Perm l)(h:hD t l v):hD t i v:=aM h λs Q=>ay s λx A a=>⟨aF x (p.mem_iff.mpr A) a,λy b=>Q y<|p.mem_iff.mp b⟩
theorem jB.q(p:x.Perm l)(h:jB t l i):jB t x i:=by
 refine bb ?_;intro c;rcases h with⟨y,A,a⟩|⟨y,A,z,a,Q⟩
 .exact aK<|aF y (p.mem_iff.mpr A) a
 .exact a1<|Bl y (p.mem_iff.mpr A) z (p.mem_iff.mpr a) Q
theorem cT.q(P:gq b a f)(h:cT n A t b a):cT n A t b f where
 f v j s:=aE (h.f v j s) (λg=>aK g) λX=>ch X λc g i Q=>a1<|bO c g i<|Q.q<|P c i
 d c e:=⟨λy o=>(h.d c e).1 y<|(P c e).mem_iff.mp o,((P c e).map _).nodup_iff.mpr (h.d c e).2⟩
 l k x M c e:=(h.l k x M c e).q<|P c e
 m:=h.m
 p:=h.p
 h:=h.h
theorem ew.q(P:gq b a f)(h:ew t b a):ew t b f:=λc d=>⟨λe=>(h c d).1 (by have:=P c d;rw[e]at this;exact List.nil_perm.mp this),λg e=>(h c d).2 g (by haveI:=P c d;rw[e]at this;exact(List.singleton_perm.mp this).symm)⟩
theorem eF.y(e:a i=l::o::r)(h:eF b a c):eF b (aw a i<|o::l::j) c where
 g:=h.g
 h p x:=by
  rw[h.h p x];refine exists_congr λf=>mK λk=>mK λk=>?_;by_cases g:f=i
  .exact J g<|J aR<|J e ⟨λX=>gi X λn q j A d=>by cases A;exact h4 _ _ _ I d.symm,λX=>gi X λn q j A d=>by cases A;exact h4 _ _ _ I d.symm⟩
  .rw[aG g]
theorem ck.y(e:a j=l::o::p)(w:ck t b a s):ck t b (aw a j<|o::l::u) s:=λc d f i q g=>by
 refine bb ?_;intro n;by_cases k:c=j
 .subst k;replace g:=aR▸g;cases g;exact(w c d l o p e).symm
 .replace g:=(aG k)▸g;exact w c d f i q g
theorem Ct(h:2*i=2*j+1):bW:=by omega
theorem wx(M:x≠0)(a:y≠0)(h:bK x=bK y):x=y:=by
 delta bK at h;by_cases p:0<x
 .rw[a9 p]at h;by_cases q:0<y
  .rw[a9 q]at h;exact(gj<|jY p).symm.trans<|(aW _<|SQ as h).trans<|gj<|jY q
  .rw[bf q]at h;exact be (Ct h)
 .rw[bf p]at h;by_cases q:0<y
  .rw[a9 q]at h;exact be (Ct h.symm)
  .rw[bf q]at h;exact Sf.mp<|(oZ<|gW.mp p).symm.trans<|(aW _<|SQ as<|S3 h).trans<|oZ<|gW.mp q
theorem eF.D(T:i<b)(e:a i=j::l::r)(G:c (bK l)=o++(i:am)::W)(N:bK j≠bK z)(P:bK j≠bK l)(K:bK z≠bK l)(h:eF b a c):eF b (aw a i<|j::z::s)<|aw (aw c (bK z)<|c (bK z)++[(i:am)]) (bK l)<|o++W where
 g p:=by
  by_cases u:p=bK l
  .refine J u<|J aR ?_;have:=h.g<|bK l;rw[G,fN]at this;rw[fN];exact aP this.1 (dO.mp this.2.1).2 λx M y H=>this.2.2 x M y<|cm _ H
  .refine J (aG u) ?_;by_cases v:p=bK z
   .refine J v ?_;rw[aR,fN];refine aP (h.g _) (dO.mpr ⟨fO,fm⟩) λx M y H=>J (b9.mp H) ?_;rintro rfl;obtain⟨d,A,_,R,S,m,f,Q⟩:=(h.h _ _).mp M;obtain rfl:=de A;replace f:=e▸f;cases f;exact aE Q (λQ=>N Q) λQ=>K Q.symm
   .exact J (aG v)<|h.g p
 h p x:=by
  have L:(∃n k B,aw a i (j::z::s) i=n::k::B/\(bK n=p\/bK k=p))↔(bK j=p\/bK z=p):=J aR ⟨λX=>gi X λC C C A f=>by cases A;exact f,λh=>h4 _ _ _ I h⟩;have a':x=(i:am)->(x∈c p↔(bK j=p\/bK l=p)):=λM=>by rw[h.h];exact⟨λX=>bD X λd h=>bD h.2.2 λR w=>bD w λS w=>bD w λm w=>by obtain rfl:=de (bx M.symm h.1);haveI f:=w.1;replace f:=e▸f;cases f;exact w.2,λh=>d8 i M T _ ⟨_,_,e,h⟩⟩
  haveI b':x∈aw (aw c (bK z)<|c (bK z)++[(i:am)]) (bK l) (o++W) p↔(x≠i/\x∈c p)\/(x=i/\(bK j=p\/bK z=p)):=by
   by_cases u:p=bK l
   .refine J u<|aR.symm▸(J G ?_);haveI E:=h.g<|bK l;rw[G]at E;haveI c':=λq=>by rw[fN,dO]at E;exact aE (cK.mp q) (λq=>E.2.2 _ q _ (bu ..) I) λq=>E.2.1.1 q
    by_cases M:x=i
    .exact J M ⟨λq=>aA q c',λq=>aE q (λq=>aA I q.1) λq=>aE q.2 (λq=>aA q P) λq=>aA q K⟩
    .haveI:x∈o++(i:am)::W↔x∈o++W:=by rw[cK,cK,cu];exact FD ⟨λq=>aE q (λq=>aA q M) id,a1⟩
     rw[this];exact⟨λq=>aK ⟨M,q⟩,λq=>aE q (λq=>q.2) λq=>aA q.1 M⟩
   .refine J (aG u) ?_;by_cases v:p=bK z
    .refine az v ?_;rw[aR,cK,b9];by_cases M:x=i
     .exact⟨λC=>a1 ⟨M,a1 I⟩,λC=>a1 M⟩
     .exact⟨λq=>aE q (λq=>aK ⟨M,q⟩) λq=>aA q M,λq=>aE q (λq=>aK q.2) λq=>aA q.1 M⟩
    .refine J (aG v) ?_;by_cases M:x=i
     .rw[a' M];exact⟨λq=>a1 ⟨M,aE q aK λq=>aA q.symm u⟩,λq=>aE q (λq=>aA M q.1) λq=>aE q.2 aK λq=>aA q.symm v⟩
     .exact⟨λq=>aK ⟨M,q⟩,λq=>aE q (λq=>q.2) λq=>aA q.1 M⟩
  rw[b',h.h];constructor
  .rintro(⟨A,d,f,Q,F⟩|⟨A,f⟩)
   .exact⟨d,f,Q,((λd t=>by rw[aG t]:∀d:O,d≠i->((∃j k r,a d=j::k::r/\(bK j=p\/bK k=p))↔∃n k B,aw a i (j::z::s) d=n::k::B/\(bK n=p\/bK k=p))) d λq=>A<|az q f).mp F⟩
   .exact bO i A T<|L.mpr f
  .refineλd'=>ch d' λd f Q F=>bb ?_;intro e';by_cases t:d=i
   .cases t;exact a1 ⟨f,L.mp F⟩
   .exact aK ⟨λq=>t<|de<|bx f.symm q,d,f,Q,((λd t=>by rw[aG t]:∀d:O,d≠i->((∃j k r,a d=j::k::r/\(bK j=p\/bK k=p))↔∃n k B,aw a i (j::z::s) d=n::k::B/\(bK n=p\/bK k=p))) d t).mpr F⟩
theorem ck.D(T:j<b)(e:a j=l::o::p)(x:a4 t.b o=-1)(E:a4 t.b z≠-1)(w:ck t b a s):ck t b (aw a j<|l::z::u) s:=λc d i n q k=>by
 by_cases G:c=j
 .subst G;replace k:=aR▸k;cases k;refine⟨λf=>?_,λf=>aA f.1 E⟩;haveI:=((w c d l o p e).1 f).1;rw[x]at this;exact aA this as
 .rw[aG G]at k;exact w c d i n q k
end
end
mutual
structure d6(n:O)(A:U am)(b:O)(t0:b3)(e:db)(g:am)(h:O)(d rest:U am)(t:b3)(a:db)(c:O->U am):Prop where
 j:bG n t
 o:cT n A t b a
 w:ew t b a
 x:eF b a<|aw c (bK g)<|d++rest
 v:ck t b a h
 q:∀m∈d,∃(i:O)(p:am)(r:U am),m=i/\a i=p::g::r/\a4 t.b p=1
 z:t.a[h]?=Y (-g)
 f:t.f=t0.f
 l:t.g=t0.g
 s:∃u,t.a=t0.a++u
 k:gq b e a
end
section
variable{n:O}{A:U am}{b:O}{t0:b3}{e:db}{g:am}{h:O}{d rest:U am}{t:b3}{a:db}{c:O->U am}{m:O}
mutual
theorem d6.r(i:d6 n A b t0 e g h d rest t a c):bt n g/\a4 t.b g=-1/\t.h (ao g)=h:=by refine b6 (i.j.s h _ i.z) λk j Q=>?_;haveI f:=k.v;rw[fl]at f;rw[fI f.1]at j;rw[du]at Q;exact aP f (sb j) Q
theorem d6.B(i:d6 n A b t0 e g h d (m::rest) t a c):m<b/\∃H L M,a m=H::L::M/\(H=g\/L=g)/\(∀N∈a m,bt n N)/\b0 ((a m).map ao):=by
 refine bb ?_;intro p;obtain⟨o,k,Q,H,L,M,j,f⟩:=(i.x.h _ _).mp (J aR<|dN _<|bu ..);obtain rfl:=de k;refine aM (i.o.d _ Q) λP l=>J8 Q H L M j ?_ P l;replace P:=j▸P;rcases f with f|f
 .exact aK<|wx (P H<|bu ..).1 i.r.1.1 f
 .exact a1<|wx (P L<|cm _<|bu ..).1 i.r.1.1 f
theorem d6.F(f:d6 n A b t0 e g h d (m::rest) t a c):(m:am)∉d:=λq=>by haveI:=f.x.g<|bK g;rw[aR,fN]at this;exact this.2.2 _ q _ (bu ..) I
theorem d6.E(f:d6 n A b t0 e g h d (m::rest) t a c)(l:U am):∀M∈d,∃(H:O)(L:am)(N:U am),M=H/\aw a m l H=L::g::N/\a4 t.b L=1:=λM i=>e5 (f.q M i) λH L N j k Q=>nb H L N j (J (aG λq=>f.F (by exact az q<|j▸i)) k) Q
theorem d6.y(f:d6 n A b t0 e g h d (m::rest) t a c)(i:a m=g::H::L):d6 n A b t0 e g h d (m::rest) t (aw a m<|H::g::L) c:=haveI P:=.k<|J i<|xq ..;{f with o:=f.o.q P,w:=f.w.q P,x:=f.x.y i,v:=f.v.y i,q:=f.E _,k:=f.k.i P}
theorem nt(s:i≠0)(c:j≠0)(h:i≠j):bK i≠bK j:=λq=>h<|wx s c q
theorem d6.D(f:d6 n A b t0 e g h d (m::rest) t a c)(l:a m=L::g::M)(p:(L::H::N).Perm (L::g::M))(G:a4 t.b H≠-1)(u:H∈M):d6 n A b t0 e g h d rest t (aw a m<|L::H::N)<|aw c (bK H)<|c (bK H)++[(m:am)]:=by
 haveI P:gq b a<|aw a m<|L::H::N:=.k<|J l p;refine bb ?_;intro R;obtain⟨C,_,_,_,_,_,i,Q⟩:=f.B;rw[l]at i Q;haveI E:L∈L::g::M:=bu ..;haveI y:g∈L::g::M:=cm _<|bu ..;haveI B:H∈L::g::M:=cm _<|cm _ u;rw[iO,dO,iO,dO]at Q;have F:H≠g:=λj=>Q.2.1<|az j<|fM u;haveI K:aw (aw (aw c (bK g)<|d++(m:am)::rest) (bK H)<|aw c (bK g) (d++(m:am)::rest) (bK H)++[(m:am)]) (bK g) (d++rest)=aw (aw c (bK H)<|c (bK H)++[(m:am)]) (bK g) (d++rest):=by
  funext j;by_cases s:j=bK g
  .exact J s<|J aR<|J aR I
  .refine J (aG s)<|J (aG s) ?_;by_cases S:j=bK H
   .exact J S<|J aR<|J aR<|J (aG<|nt (i H B).1 (i g y).1 F) I
   .exact J (aG S)<|(aG S).symm▸(J (aG s) I)
 exact{f with o:=f.o.q P,w:=f.w.q P,x:=az K<|eF.D C l aR (nt (i L E).1 (i H B).1 λj=>Q.1<|J j<|cm _<|fM u) (nt (i L E).1 (i g y).1 λj=>Q.1<|J j<|bu ..) (nt (i H B).1 (i g y).1 F) f.x,v:=f.v.D C l f.r.2.1 G,q:=f.E _,k:=f.k.i P}
theorem d6.u(f:d6 n A b t0 e g h d (m::rest) t a c):eF b a<|aw c (bK g)<|(d++[(m:am)])++rest:=by rw[iL];exact f.x
theorem d6.p(f:d6 n A b t0 e g h d (m::rest) t a c)(i:a m=H::g::L)(s:a4 t.b H=1):d6 n A b t0 e g h (d++[(m:am)]) rest t a c:={f with x:=f.u,q:=λj M=>aE (cK.mp M) (f.q j) λk=>nb m H L (b9.mp k) i s}
theorem d6.i(u:d6 n A b t0 e g h d (m::rest) t a c)(D:a m=H::g::L)(C:a4 t.b H=0)(K:∀M∈L,a4 t.b M=-1):d6 n A b t0 e g h (d++[(m:am)]) rest (t.i H m) a c:=by
 revert A b t0 e h d rest c;revert n g t a m H L;refine@hs _<|e0 @(letI n:=_;letI g:=_;letI t:=_;letI a:=_;letI m:=_;letI H:=_;letI L:=_;(e3 ?_:eE _ _ _ n g t a m H L));intros;refine bb ?_;intro b';obtain⟨N,_,_,_,_,_,E,Q⟩:=u.B;rw[D]at E Q;refine{j:=u.j.i m (E H<|bu ..) C,o:=u.o.i u.j (E H<|bu ..) C<|a1<|dQ m I N (J D<|bu ..) λM B P=>?_,w:=u.w.i C,x:=u.u,v:=u.v.i C<|eb.mpr<|f4<|dB u.z,q:=λR S=>?_,z:=li u.z,f:=u.f,l:=u.l,s:=bH u.s λp T=>⟨p++[H],by refine(?_:t.a++[H]=_);rw[T,iL]⟩,k:=u.k}
 .replace B:=D▸B;rcases cu.mp B with rfl|B
  .exact aA I P
  .rcases cu.mp B with rfl|B
   .exact u.r.2.1
   .exact K M B
 .rcases cK.mp S with F|F
  .exact e5 (u.q R F) λW X r y a' G=>nb W X r y a'<|(hY C<|J G iD).1.trans G
  .exact nb m H L (b9.mp F) D kt
theorem d6.G(j:d6 n A b t0 e g h d [] t a c)(P:∀H∈t.f,H<=h):eF b a (aw c (bK g) d)/\ck t b a (h+1:O):=by
 revert g;revert n A b t0 e h d t a c;refine@je _<|eZ @(letI n:=_;letI A:=_;letI b:=_;letI t0:=_;letI e:=_;letI h:=_;letI d:=_;letI t:=_;letI a:=_;letI c:=_;(e2 ?_:eD _ _ _ _ _ n A b t0 e h d t a c));intros;haveI w:=j.x;rw[dI]at w;refine⟨w,b6 j.r λX Q R=>?_⟩;haveI S:t.e (ao g)=Z t.f:=by have z:t.b (ao g)≠0:=λm=>aA (c7.mpr m) (by refine J Q ?_;decide);refine tE (j.j.a _ X.2 z).2<|Int.le_of_not_gt λq=>?_;haveI E:bM (t.e (ao g))<Z t.f:=n3 q<|eU<|l2 (j.j.a _ X.2 z).1;exact(aq [0,1,1,1] I:ap 1 2 [.c .a .g,.b .a .b,.d .b .g] .i) R ((j.j.b _ X.2 z _ _<|cl E).mpr<|(aq [1,1] I:ap 1 1 [.d .a .g] (.d .a .g))<|Ex _)<|P _<|kN E
 haveI F:∀l,l<b->∀o s r,a l=o::s::r->∀u y,(u=o/\y=s)\/(u=s/\y=o)->jD t h u y->jD t (h+1:O) u y:=by
  refineλl v o s r m u y B k C=>bb ?_;intro b';by_cases q:t.h (ao u)<h
  .exact k ⟨C.1,q⟩
  .refine bH (j.j.y ((j.o.d l v).1 u (by refine J m ?_;rcases B with⟨rfl,_⟩|⟨rfl,_⟩<;>simp)) C.1) λT K=>?_;haveI L:=(j.j.s T _ K).2.2;rw[du,(by exact(c8 [1,0,1] [1,1] I I:ap 1 1 [.f<|.b .a .g,.b .a<|.p<|.h .a] (.c .a .g)) q C.2:t.h u.natAbs=h)]at L;obtain rfl:=de L;haveI W:u=g:=Sf.mp<|bE<|bx K.symm j.z;subst W;haveI x:(l:am)∈d:=by haveI:=(j.x.h (bK u) l).mpr<|d8 l I v o ⟨s,r,m,by rcases B with⟨rfl,_⟩|⟨rfl,_⟩<;>simp⟩;rw[aR,dI]at this;exact this
   refine e5 (j.q _ x) λc' d' e' a' D M=>?_;obtain rfl:=de a';replace D:=m▸D;cases D;haveI N:=(j.o.d l v).2;rw[m,iO,dO]at N;rcases B with⟨rfl,rfl⟩|⟨_,rfl⟩
   .exact aA (bu ..) N.1
   .exact⟨M,J S (j.j.a _ ((j.o.d l v).1 y<|J m<|bu ..).2 λq=>aA (c7.mpr q) (by refine J M ?_;decide)).2⟩
 exactλl v o s r m=>⟨F l v o s r m o s (aK ⟨I,I⟩) (j.v l v o s r m).1,F l v o s r m s o (a1 ⟨I,I⟩) (j.v l v o s r m).2⟩
end
end
mutual
def NJ:U<|U am:=[0,1,-1].flatMap λa=>[0,1,-1].flatMap λb=>[0,1,-1].flatMap λc=>[0,1,-1].map λd=>[a,b,c,d]
def v6:U<|U am:=NJ.filter λq=>EI 2 (Z (q.filter<|Int.beq' 0))
theorem KF:Z v6=33:=by decide+kernel
def mp(q:U am)(v:O):am:=bS q (v-1) 0
def rM(a:O)(b:db)(P:O->am):Prop:=∀c:O,c<a->(∃y∈b c,a4 P y=1)\/∃y∈b c,∃z∈b c,y≠z/\a4 P y≠-1/\a4 P z≠-1
def gh(a:O)(b:db):O:=v6.countP λq=>a0<|rM a b<|mp q
theorem NC(a:O)(b:db):gh a b<=33:=az KF Sk
theorem rM.f(x:d<=L)(b:gq d k e)(h:rM L e P):rM d k P:=λc a=>by
 haveI p:=b c a;refine bb ?_;intro g;rcases h c (ci a x)with⟨y,A,i⟩|⟨y,A,z,i,Q⟩
 .exact aK<|aF y (p.mem_iff.mp A) i
 .exact a1<|Bl y (p.mem_iff.mp A) z (p.mem_iff.mp i) Q
theorem td(x:c<=L)(a:gq c k d):gh L d<=gh c k:=xv λq p h=>fC<|(fa h).f x a
theorem HU{α:Type}{p q:α->ba}{a:α}{l:U α}(h:a∈l)(m:∀x,p x=an->q x=an)(b:p a=ax)(M:q a=an):l.countP p+1<=l.countP q:=by
 induction l with
 |nil=>exact aC h ar
 |cons x l d=>
  rcases cu.mp h with rfl|h
  .exact J (Ez (by exact J b as))<|J (xu M)<|fP<|xv λx c=>m x
  .cases e:p x with|true=>exact J (xu e)<|J (xu<|m x e)<|fP<|d h|false=>exact J (Ez (by exact J e as))<|aH (d h) (by cases k:q x with|true=>exact J (xu k)<|cO _|false=>exact J (Ez (by exact J k as))<|b4 _)
def gx(n:O)(t:b3)(b:am)(v:O):am:=if v<=n/\t.b v≠0/\t.h v<b then t.b v else 0
def lw(P:O->am):U am:=[P 1,P 2,P 3,P 4]
theorem Nu(q:v≠0)(b:v<=4):mp (lw P) v=P v:=by revert q;exact qb b (λh=>aA I h) (λp=>I) (λp=>I) (λp=>I) λp=>I
end
section
variable{n:O}{A:U am}{t:b3}{a:O}{b:db}
mutual
theorem BW(d:n<=4)(a:bt n y):a4 (mp<|lw<|gx n t c) y=if t.b (ao y)≠0/\t.h (ao y)<c then a4 t.b y else 0:=by
 refine J (ni<|Nu (λe=>a.1<|Et.mp e)<|aH a.2 d) ?_;delta a4;by_cases h:t.b (ao y)≠0/\t.h (ao y)<c
 .exact J (a9 h)<|J (show gx n t c (ao y)=t.b (ao y)from a9 ⟨a.2,h⟩) I
 .refine J (bf h)<|J (show gx n t c (ao y)=0 from bf λg=>h g.2) ?_;split<;>rfl
theorem CN(a:n<=4)(d:bt n y):a4 (mp<|lw<|gx n t c) y=1↔a4 t.b y=1/\t.h (ao y)<c:=by
 refine J (BW a d) ?_;split
 .next h=>exact⟨λg=>⟨g,h.2⟩,λg=>g.1⟩
 .next h=>exact⟨λg=>aA g as,λg=>aA ⟨λe=>aA (c7.mpr e)<|J g.1 as,g.2⟩ h⟩
theorem te(a:n<=4)(d:bt n y):a4 (mp<|lw<|gx n t c) y=-1↔fQ t c y:=by
 refine J (BW a d) ?_;split
 .next h=>exact⟨λg=>⟨g,h.2⟩,λg=>g.1⟩
 .next h=>exact⟨λg=>aA g as,λg=>aA ⟨λe=>g.g<|c7.mpr e,g.2⟩ h⟩
theorem CO(a:n<=4)(x:∀y∈l,bt n y):jB t l c↔(∃y∈l,a4 (mp<|lw<|gx n t c) y=1)\/∃y∈l,∃z∈l,y≠z/\a4 (mp<|lw<|gx n t c) y≠-1/\a4 (mp<|lw<|gx n t c) z≠-1:=by
 revert a;revert n t c l;refine@fk _<|jJ @(letI n:=_;letI t:=_;letI c:=_;letI l:=_;(jT ?_:is _ _ n t c l));intros;constructor
 .rintro(⟨y,A,i⟩|⟨y,A,z,i,Q,d,P⟩)
  .exact aK ⟨y,A,(CN a<|x y A).mpr i⟩
  .exact a1<|p6 y A z i Q (λe=>d<|(te a<|x y A).mp e) λe=>P<|(te a<|x z i).mp e
 .rintro(⟨y,A,i⟩|⟨y,A,z,i,Q,d,P⟩)
  .exact aK ⟨y,A,(CN a<|x y A).mp i⟩
  .exact a1<|p6 y A z i Q (λe=>d<|(te a<|x y A).mpr e) λe=>P<|(te a<|x z i).mpr e
theorem ta(T:bG n t)(b:am)(v:O):gx n t b v∈[0,1,-1]:=by
 delta gx;split
 .next h=>
   refine cF (T.c v h.1 h.2.1) λi x A M=>az M ?_;haveI:=(T.s i x A).2.1;refine aE (@BV t.b x) (λe=>?_) λe=>?_<;>rw[e]at this
   .exact J this as
   .exact J (show t.b (ao x)=-1 from sb this) as
 .decide
theorem NI(T:bG n t)(P:1<=v/\v<=4)(i:1<=w/\w<=4)(G:v≠w)(A:gx n t d v=0)(j:gx n t d w=0):lw (gx n t d)∈v6:=by
 refine eq.mpr ⟨tL.mpr ⟨_,ta T d 1,tL.mpr ⟨_,ta T d 2,tL.mpr ⟨_,ta T d 3,bL.mpr<|aF _ (ta T d 4) I⟩⟩⟩,?_⟩
 .rw[show lw (gx n t d)=[1,2,3,4].map (gx n t d)from I,List.filter_map,bv];haveI m:∀u,1<=u->u<=4->u∈[1,2,3,4]:=by
   intro u l d;refine aE (f6 u 2) (λh=>?_) λh=>?_
   .refine J (show u=1 from(dR [1,0,1] [1,1] I I:ap 1 0 [.g .k .a,.e .a<|.c 2] (.a .a .k)) l h) ?_;decide
   .refine aE (f6 u 3) (λh=>?_) λh=>?_
    .refine J (show u=2 from(dR [1,0,1] [1,1] I I:ap 1 0 [.g (.c 2) .a,.e .a<|.c 3] (.a .a<|.c 2)) (by assumption) (by assumption)) ?_;decide
    .refine aE (f6 u 4) (λh=>?_) λh=>?_
     .refine J (show u=3 from(dR [1,0,1] [1,1] I I:ap 1 0 [.g (.c 3) .a,.e .a<|.c 4] (.a .a<|.c 3)) (by assumption) (by assumption)) ?_;decide
     .refine J (show u=4 from(dR [1,1] [1,0,1] I I:ap 1 0 [.g .a<|.c 4,.g (.c 4) .a] (.a .a<|.c 4)) d h) ?_;decide
  haveI:=hx (l₁:=[v,w]) (l₂:=[1,2,3,4].filter<|Int.beq' 0∘gx n t d) (by simp[G]) (λu f=>by
   rcases cu.mp f with rfl|f
   .exact eq.mpr ⟨m _ P.1 P.2,by rw[R1,A];rfl⟩
   .exact J (b9.mp f)<|eq.mpr ⟨m _ i.1 i.2,by rw[R1,j];rfl⟩);exact Nat.ble_eq.mpr this
theorem ND(m:n<=4)(T:bG n t)(L:cT n A t a b){k:O}(C:t.f[k]?=Y d)(P:1<=v/\v<=4)(x:1<=w/\w<=4)(G:v≠w)(j:t.b v≠0->d<=t.h v)(i:t.b w≠0->d<=t.h w)(z:∀y∈e::r,bt n y)(o:∀y∈e::r,a4 t.b y=-1)(B:∀y∈r,t.h (ao y)<d):gh (a+1) (aw b a<|e::r)+1<=gh a b:=by
 refine HU (NI T P x G ((λu h=>bf λg=>aA (h g.2.1)<|qM.mpr g.2.2:∀u:O,(t.b u≠0->d<=t.h u)->gx n t d u=0) v j)<|(λu h=>bf λg=>aA (h g.2.1)<|qM.mpr g.2.2:∀u:O,(t.b u≠0->d<=t.h u)->gx n t d u=0) w i) (λq h=>fC<|(fa h).f (cO _) (λc l=>by rw[aG<|bj l])) (io λh=>?_)<|fC λc l=>(CO m (L.d c l).1).mp<|L.l k d C c l
 .haveI:=h a<|b7 _;rw[aR]at this;rcases(CO m z).mpr this with⟨y,j,i,_⟩|⟨y,j,D,i,Q,E,F⟩
  .rw[o y j]at i;exact aA i as
  .haveI p:∀u∈e::r,¬fQ t d u->u=e:=λu s H=>aE (cu.mp s) id λg=>aA ⟨o u s,B u g⟩ H;exact Q<|(p y j E).trans (p D i F).symm
theorem cT.e(i:cT n A t a b)(r:(∀y∈u,bt n y)/\b0 (u.map ao))(C:∀(s:O)(x:am),t.f[s]?=Y x->jB t u x):cT n A t (a+1)<|aw b a u where
 f v P w:=aE (i.f v P w) (λj=>aK j) λX=>ch X λc j q Q=>a1<|bO c j (er q)<|J (aG<|bj q) Q
 d c o:=by
  by_cases g:c=a
  .exact J g<|J aR r
  .exact J (aG g)<|i.d c<|lK (kU o) g
 l s x M c o:=by
  by_cases g:c=a
  .exact J g<|J aR<|C s x M
  .exact J (aG g)<|i.l s x M c<|lK (kU o) g
 m:=i.m
 p:=i.p
 h:=i.h
theorem ew.e(h:ew t a b)(x:l≠[]/\∀d,l=[d]->a4 t.b d=1/\t.e (ao d)=0):ew t (a+1)<|aw b a l:=λc g=>by
 by_cases f:c=a
 .exact J f<|J aR x
 .exact J (aG f)<|h c<|lK (kU g) f
theorem ck.e(h:ck t a b d)(x:∀f j k,l=f::j::k->jD t d f j/\jD t d j f):ck t (a+1) (aw b a l) d:=λc i=>by
 by_cases g:c=a
 .exact J g<|J aR x
 .exact J (aG g)<|h c<|lK (kU i) g
def kI(G:O->U am)(m:am):U am->O->U am|a::b::_=>aw (aw G (bK a)<|G (bK a)++[m]) (bK b)<|aw G (bK a) (G (bK a)++[m]) (bK b)++[m]|_=>G
set_option tactic.hygienic true in theorem eF.e{l:U am}{G:O->U am}(h:eF a b G)(t:∀d f r,l=d::f::r->bK d≠bK f):eF (a+1) (aw b a l)<|kI G a l:=by
 haveI z:∀p,(a:am)∉G p:=λp q=>by refine ch ((h.h _ _).mp q) λs A o k=>?_;haveI:=de A;exact(aq [1,0,1] I:ap 2 0 [.c .g .j,.e .b .a] .i) A o
 have D:∀p,kI G a l p=G p++(if pC l p then[(a:am)]else[]):=by
  intro p;match l,t with
   |[],_=>rw[bf λX:pC [] p=>gi X λk k k n k=>aC n ar,dI];rfl
   |[d],_=>rw[bf (λX:pC [d] p=>gi X λk k k n k=>nomatch n),dI];rfl
   |d::f::r,t=>
    refine(?_:aw _ _ _ p=_);by_cases u:p=bK f
    .refine J u ?_;exact J aR<|J (aG<|f8<|t d f r I)<|J (a9 ⟨d,f,r,I,a1 I⟩) I
    .refine J (aG u) ?_;by_cases v:p=bK d
     .refine J v ?_;exact J aR<|J (a9 ⟨d,f,r,I,aK I⟩) I
     .rw[aG v,bf,dI];refineλw:pC _ p=>gi w λk k k n h=>?_;cases n;exact aE h (λh=>v h.symm) λh=>u h.symm
 constructor
 .intro p;rw[D];split
  .rw[fN];exact⟨h.g p,dO.mpr ⟨fO,fm⟩,λx M y B n=>z p (by exact(b9.mp B)▸n▸M)⟩
  .rw[dI];exact h.g p
 .intro p m;rw[D,cK,h.h];constructor
  .rintro(⟨s,A,o,Q⟩|A)
   .exact bO s A (er o) (by exact J (aG<|bj o) Q)
   .split at A
    .next C=>exact bO a (b9.mp A) (b7 _) (by exact J aR C)
    .exact aA A fO
  .refineλw=>ch w λs A o Q=>?_;by_cases n:s=a
   .cases n;replace Q:=aR▸Q;exact J (a9 Q)<|a1<|b9.mpr A
   .rw[aG n]at Q;exact aK<|bO s A (lK (kU o) n) Q
end
end
mutual
def eC(l:U am):Prop:=l.Pairwise λx y=>ao x<ao y
theorem eC.ext:∀{d:U am},eC l->eC d->(∀x,x∈l↔x∈d)->l=d:=by induction l with|nil=>exactλs X h=>(EC.mpr λy a=>aA ((h y).mpr a) fO).symm|cons x l b=>intro d s X h;induction d using gn with|nil=>exact aA ((h x).mp<|bu ..) fO|cons y d=>obtain⟨i,w⟩:=o1.mp s;obtain⟨B,c⟩:=o1.mp X;haveI e:=aE (cu.mp<|(h x).mp<|bu ..) (λe=>e) λe=>aE (cu.mp<|(h y).mpr<|bu ..) (λk=>k.symm) λk=>aA (i y k)<|Nat.lt_asymm<|B x e;subst e;exact aW _<|b w c λz=>⟨λE=>hJ (cu.mp<|(h z).mp<|cm _ E) λe=>aA (i z E) (by rw[e];exact f5 _),λE=>hJ (cu.mp<|(h z).mpr<|cm _ E) λe=>aA (B z E) (by rw[e];exact f5 _)⟩
def tb(M:am->Prop)(v:O):a3 am:=if M v then Y (v:am)else if M (-v)then Y (-v)else au
def ea(M:am->Prop):U am:=[1,2,3,4].filterMap<|tb M
theorem ww(h:tb M v=Y x):ao x=v/\M x:=by
 delta tb at h;split at h
 .next g=>exact az (bE h) ⟨I,g⟩
 .split at h
  .next g=>exact az (bE h) ⟨by rw[du];rfl,g⟩
  .exact aC h ar
theorem CX(M:am->Prop):eC<|ea M:=T7 _ (λa b h x c y d=>J (ww c).1<|J (ww d).1 h) as
def rO(M:am->Prop):Prop:=∀x,M x->bt 4 x/\¬M (-x)
theorem Bq(h:1<=v)(a:v<=4):v∈[1,2,3,4]:=by revert h;exact qb a (λh=>aC h ar) (λp=>by decide) (λp=>by decide) (λp=>by decide) (λp=>by decide)
theorem tf(h:rO M):x∈ea M↔M x:=by
 delta ea;rw[SE];refine⟨λX=>ay X λv p e=>(ww e).2,λb=>aM (h x b) λs Q=>?_⟩;obtain⟨A,i⟩:=s;refine aF (ao x) (Bq (jn.mpr A) i) ?_;delta tb;rcases xo x with e|e
 .exact az e<|J (a9 b) I
 .rw[(by exact(c8 [1,1] [1,0,1] I I:ap 1 1 [.c .a<|.r .g] (.c .g<|.r .a)) e:(x.natAbs:Int)=-x),bf Q,fl,a9 b]
theorem N8(h:∀x,M x↔d x):ea M=ea d:=aW ea<|jy λx=>ui<|h x
theorem lz(h:rO M)(a:eC l)(e:∀x,x∈l↔M x):l=ea M:=a.ext (CX M) λx=>(e x).trans (tf h).symm
def cL(a:U dw)(o:am)(l:U am):Prop:=0<=o/\∃p,a[(bM o)]?=Y p/\p.b=l
theorem cL.f(h:cL i o j):cL (i++k) o j:=⟨h.1,h.2.imp λp g=>⟨li g.1,g.2⟩⟩
theorem cL.l(h:cL g o i)(a:cL g o x):i=x:=by refine kK h λb p A c=>kK a λb E Q d=>?_;rw[A]at Q;exact bx c.symm<|(aW dw.b<|bE Q).trans d
theorem cL.d:cL (h++[p]) (Z h) p.b:=md (eT _) p p3 I
structure lY(c C:U am)(v:am)(m:U am):Prop where
 b:(v∈c/\-v∈C)\/(-v∈c/\v∈C)
 a:eC m
 h:∀x,x∈m↔(x∈c\/x∈C)/\ao x≠ao v
def c4(a:U dw):U am->U (am×am)->U am->Prop|l,[],x=>l=x|l,(v,o)::r,x=>∃m k,cL a o k/\lY l k v m/\c4 a m r x
theorem c4.f:∀{i x:U am},c4 o i j x->c4 (o++s) i j x:=by induction j with|nil=>exactλh=>h|cons q r d=>exactλh=>dd h λm k A a Q=>fv m k A.f a<|d Q
theorem c4.q{a b:U (am×am)}:∀{i:U am},c4 j i a x->c4 j x b G->c4 j i (a++b) G:=by induction a with|nil=>exactλh g=>J h g|cons e r d=>exactλh g=>dd h λm k A c Q=>fv m k A c<|d Q g
theorem c4.u(h:c4 i j x s)(C:cL i o k)(r:lY s k v m):c4 i j (x++[(v,o)]) m:=h.q<|fv m k C r I
def hT(w:O->ba)(x:am):Prop:=w (ao x)=a0 (0<x)
def fE(w:O->ba)(l:U am):Prop:=∃x∈l,hT w x
theorem hT.v(h:x≠0):hT w (-x)↔¬hT w x:=by
 delta hT;rw[du];refine aE (Ep h) (λh=>?_) λh=>?_
 .refine J (fC<|xp.mpr h)<|J (io<|tF h) ?_;cases w (ao x)<;>decide
 .refine J (fC h)<|J (io λg=>tF h<|xp.mp g) ?_;cases w (ao x)<;>decide
theorem lY.e(r:lY d C v m)(o:eC d)(s:eC C)(P:v≠0)(B:fE w d)(D:fE w C):fE w m:=by
 refine ay B λx M c=>ay D λy f g=>?_;by_cases h:ao x=ao v
 .by_cases n:ao y=ao v
  .exfalso;haveI u:∀l,eC l->∀a∈l,∀b∈l,ao a=ao b->a=b:=λl E a F b G t=>by
    obtain⟨i,z,rfl⟩:=kO F;obtain⟨j,A,rfl⟩:=kO G;have p:=iP.mp E;rcases tP i j with q|q|q
    .exact aA t<|bj<|p i j z A q
    .subst q;rfl
    .exact aA t.symm<|bj<|p j i A z q
   rcases r.b with⟨k,X⟩|⟨k,X⟩
   .haveI a:=u d o x M v k h;haveI b:=u C s y f (-v) X (by rw[du];exact n);subst a b;exact(hT.v P).mp g c
   .haveI a:=u d o x M (-v) k (by rw[du];exact h);haveI b:=u C s y f v X n;subst a b;exact(hT.v P).mp c g
  .exact aF y ((r.h y).mpr ⟨a1 f,n⟩) g
 .exact aF x ((r.h x).mpr ⟨aK M,h⟩) c
theorem c4.e(c:∀o j,cL v o j->eC j):∀{j:U am},c4 v j x y->eC j->(∀i∈x,i.1≠0)->fE w j->(∀i∈x,∀k,cL v i.2 k->fE w k)->fE w y:=by induction x with|nil=>exactλh s E g a=>az h g|cons i r d=>exactλh s E g a=>dd h λm k A b Q=>d Q b.a (λi M=>E i<|cm _ M) (b.e s (c _ _ A) (E i<|bu ..) g<|a i (bu ..) k A) λi M=>a i<|cm _ M
def cW(n:O)(t:b3)(b:am->Prop)(S:O->Prop)(x:am):Prop:=b x\/(bt n x/\a4 t.b x=-1/\S (ao x))
end
section
variable{n:O}{t:b3}{b:am->Prop}{S c:O->Prop}{a:U dw}
mutual
theorem cW.e(a:n<=4)(E:∀x,b x->bt n x/\a4 t.b x=1/\¬S (ao x)):rO<|cW n t b S:=λx M=>by
 refine bb ?_;intro p;rcases M with M|⟨A,i,Q⟩
 .obtain⟨A,i,Q⟩:=E x M;refine⟨⟨A.1,aH A.2 a⟩,λg=>?_⟩;rcases g with g|⟨_,_,g⟩
  .haveI:=(E _ g).2.1;rw[fI A.1,i]at this;exact aA this as
  .rw[du]at g;exact Q g
 .refine⟨⟨A.1,aH A.2 a⟩,λg=>?_⟩;rcases g with g|⟨_,g,_⟩
  .haveI:=(E _ g).2.2;rw[du]at this;exact this Q
  .rw[fI A.1,i]at g;exact aA g as
theorem cW.d(h:∀v,1<=v->v<=n->(S v↔c v)):ea (cW n t b S)=ea (cW n t b c):=N8 λx=>FD<|mK λg=>mK λp=>h _ (jn.mpr g.1) g.2
theorem c4.d(D:n<=4)(T:bG n t)(h:c4 a m r (ea<|cW n t b S))(l:i<=n)(u:t.b i≠0)(F:S i)(L:cL a o s)(w:∀x,x∈s↔x∈j)(B:∀y∈j,bt n y)(R:hD t j i)(E:∀x,b x->bt n x/\a4 t.b x=1/\¬S (ao x)/\∀y∈j,ao y≠ao x):c4 a m (r++[((i:am),o)])<|ea<|cW n t b λk=>k≠i/\(S k\/∃y∈j,ao y=k):=by
 haveI G:=cW.e D λx M=>aP (E x M).1 (E x M).2.1 (E x M).2.2.1;refine bb ?_;intro N;refine aM R λP H=>?_;obtain⟨x,A,f,Q⟩:=P;haveI C:=(tf G).mpr<|a1 ⟨(B x A).v,J (fI (B x A).1)<|J Q I,by rw[du,f];exact F⟩;refine h.u L ⟨?_,CX _,λy=>?_⟩
 .refine aE (xo x) (λe=>?_) λe=>?_
  .rw[f]at e;subst e;exact a1 ⟨C,(w _).mpr A⟩
  .rw[f]at e;subst e;rw[fl]at C;exact aK ⟨C,(w _).mpr A⟩
 .rw[tf<|cW.e D λx M=>⟨(E x M).1,(E x M).2.1,λg=>aE g.2 (E x M).2.2.1 λW=>ay W λy A f=>(E x M).2.2.2 y A f⟩,tf G,w,Int.natAbs_natCast];constructor
  .rintro(g|⟨X,q,z,p⟩)
   .exact⟨aK<|aK g,λe=>(E y g).2.2.1<|J e F⟩
   .refine⟨bb ?_,z⟩;intro N;rcases p with p|⟨a',K,c⟩
    .exact aK<|a1 ⟨X,q,p⟩
    .rcases gd c with rfl|rfl
     .exact a1 K
     .haveI:=(H _ K (by rw[du];exact z)).1;rw[fI X.1,q]at this;exact aA this as
  .rintro⟨(g|⟨X,q,p⟩)|g,z⟩
   .exact aK g
   .exact a1<|bV X q z<|aK p
   .exact a1 ⟨B y g,(H y g z).1,z,a1<|aF y g I⟩
theorem c4.g(f:n<=4)(T:bG n t)(h:c4 a j k (ea<|cW n t b S))(P:bt n x)(s:a4 t.b x=1)(d:S (ao x))(l:cL a o [x])(E:∀x,b x->bt n x/\a4 t.b x=1/\¬S (ao x)):c4 a j (k++[((ao x:am),o)])<|ea<|cW n t b λi=>i≠ao x/\S i:=by
 haveI:=h.d f T P.2 (λe=>aA (c7.mpr e)<|J s as) d l (λp=>oW) (λy c=>J (b9.mp c) P) ⟨bO x (gA _) I s,λy c e=>aA (aW ao<|b9.mp c) e⟩ λy c=>⟨(E y c).1,(E y c).2.1,(E y c).2.2,λi m e=>(E y c).2.2<|e▸(J (b9.mp m) d)⟩;rw[cW.d]at this
 .exact this
 .exactλv p p=>mK λr=>⟨λq=>aE q id λX=>ay X λy c e=>aA (e▸(az (b9.mp c) I)) r,aK⟩
end
end
mutual
theorem bU{p:Prop}{_:jW p}(h:a0 p=an):p:=fa h
theorem cg{p:Prop}{_:jW p}(h:a0 p=ax):¬p:=rK h
theorem hn{j m n:O}(e:m=n+1)(x:n<=4)(A:j<=n):d5 j m:=aP (eT _) (eN.mpr<|e▸mx A)<|e▸aH (fP x) as
theorem me{α:Type}{l:U α}(h:j<Z l)(x:a<=4)(b:Z l<=a):d5 j (Z l):=aP (eT _) (eN.mpr h)<|aH b<|aH x as
structure cZ(n:O)(h:ej):Prop where
 b:∀(i:O)(x:am),h.a[i]?=Y x->∃v:O,x=v/\1<=v/\v<=n/\h.c v=i
 g:∀v:O,v<=n->0<=h.c v->∃i:O,h.c v=i/\h.a[i]?=Y (v:am)
structure iZ(n:O)(H:O->Prop)(v i:O)(c:U am)(h:O->am):Prop where
 e:i<Z c
 a:1<=v/\v<=n
 b:∀(j:O)(x:am),j≠i->c[j]?=Y x->∃u:O,x=u/\1<=u/\u<=n/\u≠v/\h u=j
 g:∀u:O,u<=n->u≠v->0<=h u->∃j:O,j≠i/\h u=j/\c[j]?=Y (u:am)
 l:∀u:O,u<=n->u≠v->(0<=h u↔H u)
end
section
variable{n:O}{h:ej}{H:O->Prop}
mutual
theorem cZ.k(z:cZ n h):Z h.a<=n:=by
 haveI e:=λi y=>z.b i _<|cl y;haveI c:b0 h.a:=by rw[b0,iP];refineλi j y s d q=>bb ?_;intro g;refine dC (e i y) λv A p p f=>dC (e j s) λw X p p a=>?_;rw[A,X]at q;obtain rfl:=de q;rw[f]at a;exact aA (de a)<|bj d
 haveI C:h.a⊆(b2 n).map λv=>((v+1:O):am):=λx M=>by obtain⟨i,y,rfl⟩:=kO M;exact dC (e i y) λv A b Q p=>bL.mpr<|aF (v-1) (ed.mpr<|n4 Q<|cy<|zI b)<|J A<|aW ig<|cy b
 haveI:=hx c C;rwa[bv,ec]at this
theorem cZ.j(z:cZ n h){i v:O}(e:h.a[i]?=Y (v:am)):iZ n (λu=>0<=h.c u) v i h.a h.c:=by refine dC (z.b i _ e) λS d A f Q=>?_;obtain rfl:=de d;exact⟨dB e,⟨A,f⟩,λb x s M=>dC (z.b b x M) λu X a g c=>h1 u X a g (λq=>s (by subst q;rw[Q]at c;exact(de c).symm)) c,λu k l m=>ay (z.g u k m) λb X a=>bO b (λq=>l (by subst q;rw[e]at a;exact(de<|bE a).symm)) X a,λp p p=>oW⟩
theorem og{α:Type}{l:U α}{x:α}(h:j≠i):(l.set i x)[j]?=l[j]?:=jo<|f8 h
theorem m7{α:Type}{l:U α}{x:α}(h:i<Z l):(l.set i x)[i]?=Y x:=jp h
theorem iZ.i(a:iZ n H v m o p){u j:O}(s:j≠m)(h:o[j]?=Y (u:am)):iZ n H v j (o.set m u)<|aw p u m:=by
 refine nz (a.b j _ s h) λy e A g Q f=>?_;obtain rfl:=de e;refine⟨J jZ<|dB h,a.a,λk x C M=>?_,λw t b o=>?_,λw t b=>?_⟩
 .by_cases e:k=m
  .subst e;replace M:=(m7 a.e)▸M;exact h1 u (bE M).symm A g Q aR
  .rw[og e]at M;exact nz (a.b k x e M) λw X c z l d=>h1 w X c z l<|J (aG λq=>C (by subst q;rw[f]at d;exact(de d).symm)) d
 .by_cases e:w=u
  .exact J e<|bO m s.symm aR<|m7 a.e
  .rw[aG e]at o⊢;exact ch (a.g w t b o) λk X c z=>bO k (λq=>e (by subst q;rw[h]at z;exact(de<|bE z).symm)) c<|J (og X) z
 .by_cases e:w=u
  .subst e;exact J aR ⟨λr=>(a.l w t b).mp<|J f<|eT _,λr=>eT _⟩
  .exact J (aG e)<|a.l w t b
theorem iZ.f(a:iZ n H v m p o)(K:O->am)(N:am):cZ n ⟨K,aw o v m,p.set m v,N⟩/\∀u,u<=n->(0<=aw o v m u↔H u\/u=v):=by
 refine⟨⟨λj x b=>?_,λu h M=>?_⟩,λu h=>?_⟩
 .by_cases e:j=m
  .subst e;rw[m7 a.e]at b;exact dQ v (bE b).symm a.a.1 a.a.2 aR
  .rw[og e]at b;exact nz (a.b j x e b) λw X c z d l=>dQ w X c z<|(aG d).trans l
 .by_cases e:u=v
  .exact J e<|aF m aR<|m7 a.e
  .haveI M:0<=aw o v m u:=M;replace M:=(aG e)▸M;refine bb ?_;intro r;exact ch (a.g u h e M) λk X c z=>aF k ((aG e).trans c)<|J (og X) z
 .by_cases e:u=v
  .exact az e<|J aR ⟨λq=>a1 I,λq=>eT _⟩
  .exact J (aG e)<|(a.l u h e).trans ⟨aK,λg=>g.resolve_right e⟩
end
end
mutual
def i1(n:O)(s:aB):Prop:=s.d.d=n+1/\s.d.c=n+1/\n<=4
def aB.o(s:aB)(h:ej):aB:={s with c:=h}
end
section
variable{d n:O}{s:aB}{c:aJ}{K:br}
mutual
theorem qB(M:x=.a i)(f:y=.a v)(e:i1 n s)(g:i<Z s.c.a)(j:Z s.c.a<=n)(P:v<=n)(h:K .z (s.o ⟨s.c.d,aw s.c.c v i,s.c.a.set i v,s.c.b⟩) c):aO a2 (d+1) 6 [.b 1,x,y] (bJ K)<|aL s c:=by subst M f;exact cb I I I<|sF I (me g e.2.2 j) bk (s.o ⟨s.c.d,s.c.c,s.c.a.set i v,s.c.b⟩) I I (hn e.2.1 e.2.2 P) bk (s.o ⟨s.c.d,aw s.c.c v i,s.c.a.set i v,s.c.b⟩) I h
theorem wT(M:x=.a v)(g:y=.a w)(f:i1 n s)(P:v<=n)(t:w<=n)(h:∀e,K (.h e) s c):aO a2 (d+1) 4 [.b 1,x,y] (bJ K)<|aL s c:=by subst M g;refine cb I I I (?_:let i:=_;bs _ _ _ i _ _);intro i;have p:=hn f.1 f.2.2 P;have z:=hn f.1 f.2.2 t;exact fh I p I z (λj=>fg I p I z<|h _) λj=>h _
theorem fV{l:U am}(h:l[i]?=Y x):bS l i 0=x:=J ih<|J h I
inductive yD(n:O)(s:aB)(c:aJ)(v m:O):U V->aB->aJ->Prop|mk(d:U am)(h:O->am)(x:V)(W:iZ n (λu=>0<=s.c.c u) v m d h)(e:Z d<=n):yD n s c v m [.b 1,.a m,.a v,x] (s.o ⟨s.c.d,h,d,s.c.b⟩) c
theorem Ds{i v:O}(Q:x=.a i)(r:i1 n s)(t:cZ n s.c)(B:s.c.a[i]?=Y (v:am))(h:∀l o,cZ n ⟨s.c.d,o,l,s.c.b⟩->(∀u,u<=n->(0<=o u↔0<=s.c.c u))->K .z (s.o ⟨s.c.d,o,l,s.c.b⟩) c):aO a2 (d+2) 7 [.b 1,x] (bJ K)<|aL s c:=by refine J Q<|cb I I I<|dM ?_;intro W w;refine aP I (me (t.j B).e r.2.2 t.k) ((fV B).symm▸⟨yD n s c v,i,.mk _ _ _ (t.j B) t.k,λC L a' b' R=>R.casesOn λl o x M D=>?_⟩:lA 2 (.a<|s.c.a.getD i 0) _ _);have G:∀x:V,bs (aO a2<|d+1) (.f<|.j (.c 0) 1 6<|.b (.c 1)<|.b (.c 2) .d) (eg K) [.b 1,.a C,.a v,x] (s.o ⟨s.c.d,o,l,s.c.b⟩) c:=λx=>qB I I r M.e D M.a.2<|aM (M.f s.c.d s.c.b) λH E=>h _ _ H λu p=>(E u p).trans ⟨λF=>aE F id λF=>J F<|dC (t.b i _ B) λc' X y y S=>J (de X)<|J S<|eT _,aK⟩;refine⟨λT=>bb ?_,λy=>G x⟩;intro d';obtain⟨q,N⟩:∃q:O,((C:am)-1)/2=q:=⟨(C-1)/2,(c8 [2,1,0,0,1,0,1] [2,0,1,1,0,1] I I:ap 3 1 [.d (.m 2 .a)<|.d .g .k,.b (.d .g .k)<|.e (.m 2 .a)<|.c 2,.a (.h .b) .a,.g (.m 2 .f) .b,.e .b<|.m 2<|.h .f] (.c .a .s)) (Es as) (xn as) (cy<|pF<|bU T) (Nat.mul_div_le _ 2)<|Nat.lt_mul_div_succ _ as⟩;have A:q<C:=(aq [1,0,2,1] I:ap 2 1 [.c .a .g,.d (.m 2 .a)<|.d .j .k] (.e .a .b)) N<|Es as;refine dC (M.b q _ (bj A)<|cl<|SV A M.e) λu p H E y=>?_;have p:l[q]?=Y (u:am):=az p<|cl<|SV A M.e;have P:=me (dB p) r.2.2 D;exact⟨by decide,N.symm▸(aP I P<|wT I (aW V.a<|fV p) r M.a.2 E λe'=>⟨λy=>G _,λy=>aP I P<|qB I (aW V.a<|fV p) r M.e D E ⟨q,A,.mk _ _ _ (M.i (bj A) p)<|J jZ D⟩⟩)⟩
theorem Dg(M:x=.a i)(A:i1 n s)(N:iZ n k v i s.c.a s.c.c)(C:Z s.c.a<=n)(D:K (.a<|-1) s c)(p:∀r,i<r->r<Z s.c.a->K (.a r) s c):aO a2 (d+2) 8 [.b 1,x] (bJ K)<|aL s c:=by refine J M<|cb I I I<|dM ?_;intro W X;have F:Z s.c.a<=bi:=aH C<|aH A.2.2 as;obtain⟨l,G⟩:∃l:O,2*(i:am)+1=l:=⟨2*i+1,I⟩;refine⟨by decide,(J G<|haveI y:=(aq [1,1] I:ap 2 0 [.c (.h<|.m 2 .g) .j] (.e .a .b)) G;bV I F (λt=>D) λP=>?_:bs _ _ _ [.b 1,.a i,.a<|2*i+1,.d] _ _)⟩;have B:l<Z s.c.a:=(aq [1,1] I:ap 2 0 [.f<|.d .g .j] (.e .b .a)) (cg P:¬((Z s.c.a:am)<=l));have L:∀z:O,i<z->z<Z s.c.a->∃u:O,s.c.a[z]?=Y (u:am)/\u<=n:=λz D p=>dC (N.b z _ (gB D)<|cl p) λu E t Q t=>aF u (az E<|cl p) Q;refine bV I F (λo=>haveI o:=bU o;have o:=eN.mp o;bb ?_) λt=>⟨λq=>aC q ar,λt=>p l y B⟩;intro w;exact ay (L (l+1) (er y) o) λu E R=>ay (L l y B) λH S T=>fg I (me o A.2.2 C) I (me B A.2.2 C)<|wT (aW V.a<|fV E) (aW V.a<|fV S) A R T λa'=>⟨λt=>p (l+1) (er y) o,λt=>p l y B⟩
theorem iZ.h(a:iZ n H v m k o)(s:j≠m)(x:j<Z k):∃u:O,k[j]?=Y (u:am)/\u<=n:=dC (a.b j _ s<|cl x) λu b p c p=>aF u (az b<|cl x) c
theorem cZ.a(z:cZ n l){i v:O}(e:l.a[i]?=Y (v:am)):0<=l.c v/\l.c v=i/\1<=v/\v<=n:=dC (z.b i _ e) λw X c d b=>J (de X)<|bV (J b<|eT _) b c d
inductive uD(n:O)(s:aB)(c:aJ)(v:O):O->U V->aB->aJ->Prop|mk(d:U am)(h:O->am)(m:O)(y:am)(W:iZ n (λu=>0<=s.c.c u) v m d h)(A:Z d<=n)(i:Z d=Z s.c.a)(Q:y=-1\/∃r:O,y=r/\m<r/\r<Z d):uD n s c v (n-m) [.b 1,.a m,.a v,.a y] (s.o ⟨s.c.d,h,d,s.c.b⟩) c
theorem P1{i v:O}(T:x=.a i)(t:i1 n s)(C:cZ n s.c)(F:s.c.a[i]?=Y (v:am))(h:∀l o,cZ n ⟨s.c.d,o,l,s.c.b⟩->(∀u,u<=n->(0<=o u↔0<=s.c.c u))->Z l=Z s.c.a->K .z (s.o ⟨s.c.d,o,l,s.c.b⟩) c):aO a2 (d+3) 9 [.b 1,x] (bJ K)<|aL s c:=by refine J T<|cb I I I<|dM ?_;intro e' f';refine aP I (me (C.j F).e t.2.2 C.k) ((fV F).symm▸((λl o m P W A B M N=>Dg I t W A (M _<|.mk l o m _ W A B<|aK I) λr X D=>M _<|.mk l o m _ W A B<|a1<|bO r I X D:∀(l:U am)(o:O->am)(m:O)(P:ft),iZ n (λu=>0<=s.c.c u) v m l o->Z l<=n->Z l=Z s.c.a->(∀L,uD n s c v (n-m) L (s.o ⟨s.c.d,o,l,s.c.b⟩) c->P L (s.o ⟨s.c.d,o,l,s.c.b⟩) c)->∀N,bs (aO a2<|d+2) (.b (.a 3)<|.j (.c 0) 1 8<|.b (.c 1) .d) (oG P<|eg K) [.b 1,.a m,.a v,N] (s.o ⟨s.c.d,o,l,s.c.b⟩) c) _ _ i _ (C.j F) C.k I (λL k=>?_) _):lA 2 (.a<|s.c.a.getD i 0) _ _);refine l0.mk (uD n s c v) _ k λg' L h' i' y=>y.casesOn λl o m a' W A B b'=>?_;have Q:bs (aO a2<|d+2) (.f<|.j (.c 0) 1 6<|.b (.c 1)<|.b (.c 2) .d) (eg K) [.b 1,.a m,.a v,.a a'] (s.o ⟨s.c.d,o,l,s.c.b⟩) c:=qB I I t W.e A W.a.2<|aM (W.f s.c.d s.c.b) λX D=>h _ _ X (λu w=>(D u w).trans ⟨λg=>aE g id λg=>J g (C.a F).1,aK⟩)<|(jZ ..).trans B;refine⟨λg=>ch (hJ b' λq=>aA (bU g) (by refine J q ?_;decide)) λr c' p G=>J c'<|ay (W.h (gB p) G) λu w R=>?_,λH=>⟨λq=>aC q ar,λH=>Q⟩⟩;have S:=me G t.2.2 A;refine aP I S<|wT (aW V.a<|fV w) I t R W.a.2 λj'=>⟨λH=>aP I S<|qB I (aW V.a<|fV w) t W.e A R ?_,λH=>Q⟩;haveI E:Z (l.set m u)=Z l:=jZ ..;exact Dg (s:=s.o ⟨s.c.d,aw o u m,l.set m u,s.c.b⟩) I t (W.i (gB p) w) (E▸A) (aF (n-r) (by haveI:=ci G A;exact zL p (cy<|zJ this)<|cy<|zK p this)<|.mk _ _ _ _ (W.i (gB p) w) (E▸A) (bx E B)<|aK I) λd' X D=>aF (n-r) (by haveI:=ci G A;exact zL p (cy<|zJ this)<|cy<|zK p this)<|.mk _ _ _ _ (W.i (gB p) w) (J E A) (bx E B)<|a1<|bO d' I X D
theorem Dk(M:x=.a v)(e:i1 n s)(P:v<=n)(f:K (.h<|a0<|0<=s.c.c v) s c):aO a2 (d+1) 3 [.b 1,x] (bJ K)<|aL s c:=J M<|cb I I I<|aP I (hn e.2.1 e.2.2 P) f
def nU(n:O)(s:aB)(H:O->Prop)(h:ej):Prop:=cZ n h/\h.d=s.c.d/\h.b=s.c.b/\∀u,u<=n->(0<=h.c u↔H u)
theorem cZ.e(z:cZ n l)(L:1<=v/\v<=n)(j:¬0<=l.c v):cZ n ⟨l.d,aw l.c v (Z l.a),l.a++[(v:am)],l.b⟩where
 b i x M:=by
  rcases km M with M|⟨rfl,rfl⟩
  .exact dC (z.b i x M) λu X c k f=>dQ u X c k<|(aG λq=>j (by exact az q<|J f<|eT _)).trans f
  .exact dQ v I L.1 L.2 aR
 g u m a:=by
  by_cases d:u=v
  .exact J d<|aF _ aR p3
  .haveI a:0<=aw l.c v (Z l.a) u:=a;replace a:=(aG d)▸a;exact ay (z.g u m a) λi X c=>aF i ((aG d).trans X)<|li c
theorem Dr(M:x=.a v)(f:i1 n s)(i:cZ n s.c)(L:1<=v/\v<=n)(h:∀e,nU n s (λu=>0<=s.c.c u\/u=v) e->K .z (s.o e) c):aO a2 (d+3) 10 [.b 1,x] (bJ K)<|aL s c:=by refine J M<|cb I I I<|dM ?_;intro t w;refine Dk I f L.2 ⟨λg=>h s.c<|bV i I I λu j=>⟨aK,λq=>aE q id λq=>J q<|bU g⟩,λg=>p5 ⟨I,bk⟩ I (cX (aH i.k f.2.2) as) bk (s.o ⟨s.c.d,s.c.c,s.c.a++[(v:am)],s.c.b⟩) I I (aH (i.e L<|cg g).k<|aH f.2.2 as:Z (s.c.a++[(v:am)])<=bi) I (hn f.2.1 f.2.2 L.2)<|kp bk (s.o ⟨s.c.d,aw s.c.c v<|(Z (s.c.a++[(v:am)]))-1,s.c.a++[(v:am)],s.c.b⟩) I I (aH (i.e L<|cg g).k<|aH f.2.2 as:Z (s.c.a++[(v:am)])<=bi)<|J (by rw[bI];exact@r4 _:(((s.c.a++[(v:Int)]).length:Nat):Int)-1=s.c.a.length)<|Ds (aW V.a (by rw[bI];exact@r4 _:(((s.c.a++[(v:Int)]).length:Nat):Int)-1=s.c.a.length)) f (i.e L<|cg g) p3 λl m X o=>h ⟨s.c.d,m,l,s.c.b⟩<|bV X I I λu j=>(o u j).trans (?_:0<=aw s.c.c v (Z s.c.a) u↔_)⟩;exact aE (eo<|u=v) (λq=>J q<|J aR ⟨λr=>a1 I,λr=>eT _⟩) λq=>J (aG q) ⟨aK,λp=>p.resolve_right q⟩
theorem vR{l:U am}:(iM l)[i]?=Y x↔i<Z l-1/\l[i]?=Y x:=J Sl kn
theorem cZ.f(z:cZ n l){v:O}(e:l.a[0]?=Y (v:am))(k:Z l.a=1):cZ n ⟨l.d,aw l.c v<|-1,iM l.a,l.b⟩where
 b i x M:=by haveI:=(vR.mp M).1;rw[k]at this;exact aA this<|my _
 g u d a:=by
  haveI a:0<=aw l.c v (-1) u:=a;by_cases q:u=v
  .subst q;rw[aR]at a;exact aA a as
  .rw[aG q]at a;refine bb ?_;intro p;refine ay (z.g u d a) λi X c=>?_;haveI:=dB c;rw[k]at this;obtain rfl:=Nat.lt_one_iff.mp this;replace c:=e▸c;exact aA (de<|bE c).symm q
theorem cZ.h(o:cZ n l){v w:O}(y:l.a[0]?=Y (v:am))(B:l.a[Z l.a-1]?=Y (w:am))(s:1<Z l.a):cZ n ⟨l.d,aw (aw l.c v<|-1) w 0,l.a.dropLast.set 0 w,l.b⟩/\v≠w:=by
 revert o v;revert n l w;refine@hs _<|jJ @(letI n:=_;letI l:=_;letI w:=_;(jT ?_:is _ _ _ n l w));intros;refine en (o.a y) λL X N P=>en (o.a B) λQ S D E=>?_;have C:0<Z l.a.dropLast:=J xC<|(aq [1,1,0,1] I:ap 2 0 [.e .k .a,.a (.h .b) .a] (.e .i .b)) s<|cy<|zM s;refine⟨⟨λr x M=>?_,λu F m=>?_⟩,(λq=>by subst q;replace S:=X▸S;exact(aq [1,0,1,0,1] I:ap 2 0 [.e .k .a,.c (.p .i) .j,.a (.h .b) .a] .i) s S<|cy<|zM s)⟩
 .haveI M:=M;by_cases z:r=0
  .subst z;rw[m7 C]at M;exact dQ w (bE M).symm D E aR
  .replace M:=(og z)▸M;obtain⟨t,d⟩:=vR.mp M;exact dC (o.b r x d) λu G H K A=>dQ u G H K (J (aG (λq=>by subst q;replace S:=A▸S;exact(aq [1,0,1] I:ap 2 0 [.e .a .b,.c .g .j] .i) t S))<|J (aG (λq=>by subst q;rw[A]at X;exact z<|de X)) A:aw _ _ _ u=_)
 .haveI m:0<=aw (aw l.c v<|-1) w 0 u:=m;by_cases z:u=w
  .exact J z<|aF 0 aR<|m7 C
  .rw[aG z]at m;by_cases W:u=v
   .subst W;rw[aR]at m;exact aA m as
   .replace m:=(aG W)▸m;exact ay (o.g u F m) λr t d=>aF r (J (aG z)<|J (aG W) t:aw _ _ _ u=_)<|J (og (λq=>by subst q;replace d:=y▸d;exact W (de<|bE d).symm))<|vR.mpr ⟨haveI:=dB d;(sZ [1,1] [1,0,1,0,1] I I:ap 3 0 [.h .a .b,.e .a .f,.a (.h .b) .f] (.e .a .b)) (λq=>by subst q;rw[B]at d;exact z (de<|bE d).symm:r≠Z l.a-1) this<|cy<|(aq [1,1] I:ap 2 0 [.e .a .b] (.g .k .b)) this,d⟩
theorem PV(x:i1 n s)(m:cZ n s.c)(H:s.c.a=[]->K (.a 0) s c)(E:∀v l,1<=v->v<=n->nU n s (λu=>0<=s.c.c u/\u≠v) l->Z l.a<Z s.c.a->K (.a v) (s.o l) c):aO a2 (d+4) 11 [.b 1] (bJ K)<|aL s c:=by
 revert d n s c K;refine@je _<|e0 @(letI d:=_;letI n:=_;letI s:=_;letI c:=_;letI K:=_;(e3 ?_:eE _ _ _ _ _ d n s c K));intros;refine cb I I I<|haveI y:=aH m.k<|aH x.2.2 as;bV I y (λA=>H<|iN.mp<|de<|bU A) λA=>?_;have o:0<Z s.c.a:=(ku [1] [1,1] I I:ap 1 0 [.j .g .i] (.e .i .a)) (cg A:¬((Z s.c.a:am)=0));obtain⟨v,t⟩:∃v:O,s.c.a[0]?=Y (v:am):=(ay (m.b 0 _<|cl o) λv X B=>⟨v,az X<|cl o⟩);obtain⟨w,C⟩:∃w:O,s.c.a[Z s.c.a-1]?=Y (w:am):=(haveI p:=o4 o mz;ay (m.b _ _<|cl p) λw X B=>⟨w,az X<|cl p⟩);refine en (m.a t) λb' c' F D=>haveI r:Z s.c.a.dropLast=Z s.c.a-1:=xC;aP I (me o x.2.2 m.k) ((fV t).symm▸(vU I y w (s.o ⟨s.c.d,s.c.c,iM s.c.a,s.c.b⟩) (List.getLast?_eq_getElem?.trans C) I ?_):lA 1 (.a<|s.c.a.getD 0 0) _ _);refine jK I (hn x.2.1 x.2.2 D) bk (s.o ⟨s.c.d,aw s.c.c v<|-1,iM s.c.a,s.c.b⟩)<|fg I I (aH (jt r)<|aH (gC _ _) y) (λX=>?_) λX=>?_
 .haveI X:(0:am)<Z s.c.a.dropLast:=bU X;haveI p:1<Z s.c.a:=by rw[r]at X;exact(aq [1,1,1] I:ap 2 0 [.b .i .g,.a (.h .a) .b] (.e .k .b)) X<|cy<|(aq [1,1,1] I:ap 2 0 [.b .i .g,.g .a .b] (.g .k .b)) X<|gC _ _
  refine aM (m.h t C p) λR L=>en (m.a C) λM d' e' N=>qB (i:=0) I I x (eN.mp X) (aH (jt r)<|aH (gC _ _) m.k) N<|P1 (s:=s.o ⟨s.c.d,aw (aw s.c.c v<|-1) w (0:O),s.c.a.dropLast.set 0 w,s.c.b⟩) I x R (m7<|eN.mp X) λP Q S T a'=>E v ⟨s.c.d,Q,P,s.c.b⟩ F D (bV S I I λu G=>(T u G).trans ?_)<|J a'<|J jZ<|J r<|o4 o mz
  .refine(?_:0<=aw (aw s.c.c v<|-1) w (0:O) u↔_);by_cases z:u=w
   .exact J z<|J aR ⟨λB=>⟨M,L.symm⟩,λB=>eT _⟩
   .refine J (aG z) ?_;by_cases W:u=v
    .exact J W<|J aR ⟨λq=>aA q as,λq=>aA I q.2⟩
    .exact J (aG W) ⟨λq=>⟨q,W⟩,λq=>q.1⟩
 .haveI X:¬((0:am)<Z s.c.a.dropLast):=cg X;haveI p:Z s.c.a=1:=by rw[r]at X;exact(dR [1,1,0,1] [1,0,1] I I:ap 2 0 [.f<|.b .i .g,.a (.h .a) .b] (.a .b .k)) X<|cy<|k8 o
  refine E v ⟨s.c.d,aw s.c.c v<|-1,iM s.c.a,s.c.b⟩ F D (bV (m.f t p) I I λu G=>?_)<|J r<|o4 o mz
  .refine(?_:0<=aw s.c.c v (-1) u↔_);by_cases W:u=v
   .exact J W<|J aR ⟨λq=>aA q as,λq=>aA I q.2⟩
   .exact J (aG W) ⟨λq=>⟨q,W⟩,λq=>q.1⟩
structure mS(n:O)(s:aB)(v:O)(h:ej):Prop where
 k:cZ n h
 d:h.d=s.c.d
 a:h.b=s.c.b
 b:∀u,u<=n->0<=h.c u->0<=s.c.c u
 e:∀u,1<=u->u<=n->0<=s.c.c u->s.b.b u=0->u≠v->0<=h.c u
theorem mS.f(B:mS n s v h)(P:v=0\/s.b.b v≠0)(G:nU n (s.o h) (λu=>0<=h.c u/\u≠w) i):mS n s w i:=⟨G.1,G.2.1.trans B.d,G.2.2.1.trans B.a,λu a g=>B.b u a ((G.2.2.2 u a).mp g).1,λu A a X b c=>(G.2.2.2 u a).mpr ⟨B.e u A a X b λq=>aE P (λz=>zl A q z) λz=>z<|az q b,c⟩⟩
inductive yo(n:O)(s:aB)(c:aJ):O->U V->aB->aJ->Prop|mk(v:O)(d:ej)(B:mS n s v d)(P:(v=0/\d.a=[])\/(1<=v/\v<=n)):yo n s c (Z d.a+min v 1) [.b 1,.j (.b 0 1)<|c.e<|.b 0 1,.a v] (s.o d) c
theorem PC(H:m=.j (.b 0 1) (c.e<|.b 0 1))(C:i1 n s)(M:s.d.b=n+1)(N:cZ n s.c)(h:∀v l,mS n s v l->((v=0/\l.a=[])\/(1<=v/\v<=n/\s.b.b v=0))->K (.a v) (s.o l) c):aO a2 (d+5) 12 [.b 1,m] (bJ K)<|aL s c:=by
 refine J H<|cb I I I<|dM ?_;intro L a';have E:∀v l P,mS n s v l->(v=0\/s.b.b v≠0)->(∀w p,mS n s w p->((w=0/\p.a=[])\/(1<=w/\w<=n))->Z p.a+min w 1<=Z l.a->P (.a w) (s.o p) c)->aO a2 (d+4) 11 [.b 1] (bJ P) (aL (s.o l) c):=λv l P B r D=>PV C B.k (λe=>D 0 l ⟨B.k,B.d,B.a,B.b,λu F Q X x t=>B.e u F Q X x λq=>aE r (λz=>zl F q z) λz=>z<|q▸x⟩ (aK ⟨I,e⟩)<|b4 _) λw p R S G y=>D w p (B.f r G) (a1 ⟨R,S⟩)<|aH (iR (EN ..) _) y;refine E 0 s.c _ ⟨N,I,I,λt t o=>o,λt t t o t t=>o⟩ (aK I) λw p B A t=>l0.mk (yo n s c) _ (.mk w p B A) λm b' c' d' T=>T.casesOn λv l B r=>?_;refine⟨λo=>?_,λo=>⟨λq=>aC q ar,λt=>?_⟩⟩
 .haveI o:=bU o;have r:=hJ r λq=>by replace o:=q.1▸o;exact aA o as
  exact bV I (hn M C.2.2 r.2) (λx=>E v l _ B (a1<|bU x) λw p W A y=>⟨_,cX y<|j1<|Nat.lt_min.mpr ⟨r.1,mz⟩,.mk w p W A⟩) λx=>h v l B<|a1<|aP r.1 r.2<|oV.mp<|cg x
 .exact h v l B<|aK<|r.resolve_right λq=>(aq [1,1] I:ap 1 0 [.f<|.b .i .g,.g .k .a] .i) (cg o:¬(0<(v:am))) q.1
theorem PD(M:x=.a v)(f:i1 n s)(l:cZ n s.c)(P:v<=n)(m:s.c.d v+s.c.b<=1000000000000)(h:∀e,cZ n e->e.d=aw s.c.d v (s.c.d v+s.c.b)->e.b=s.c.b->(∀u,u<=n->(0<=e.c u↔0<=s.c.c u))->K .z (s.o e) c):aO a2 (d+3) 13 [.b 1,x] (bJ K)<|aL s c:=by
 refine J M<|cb I I I<|dM ?_;intro w y;haveI p:=hn f.1 f.2.2 P;let A:ej:=⟨aw s.c.d v<|s.c.d v+s.c.b,s.c.c,s.c.a,s.c.b⟩;have j:cZ n A:=⟨l.b,l.g⟩;refine fh I p I p bk<|h1 (s.o A) I I p (λg=>?_) λk=>Dk I f P ⟨λg=>ay (j.g v P<|bU g) λi X o=>aP I (hn f.2.1 f.2.2 P)<|Ds (aW V.a X) f j o λq r t S=>h ⟨A.d,r,q,A.b⟩ t I I S,λk=>h A j I I λk k=>oW⟩
 .haveI g:1000000000000<aw s.c.d v (s.c.d v+s.c.b) v:=bU g;rw[aR]at g;exact aA g<|gW.mpr m
theorem PF(f:0<=s.c.b)(a:s.c.b+s.c.b/19+1<=1000000000000)(h:K .z (s.o ⟨s.c.d,s.c.c,s.c.a,s.c.b+s.c.b/19+1⟩) {c with e:=dz c.e 1 29}):aO a2 (d+1) 14 [.b 1] (bJ K)<|aL s c:=cb I I I<|jK as I (λq=>aC q ar) (s.o ⟨s.c.d,s.c.c,s.c.a,s.c.b+s.c.b/19+1⟩)<|aP I (λg=>aA (bU g)<|gW.mpr a) λp=>h
theorem wX(E:s.d.d=m+1)(T:m<=5)(h:K (.a m) s c):aO a2 (d+1) 2 [.b 1] (bJ K)<|aL s c:=cb I I I<|aP I (E▸aH (fP T) as:s.d.d<=bi) (J (E.symm▸(@r4 _):((s.d.d:O):am)-1=m) h:K (.a<|(s.d.d:am)-1) s c)
def aB.t(s:aB)(n:O)(a:ej):aB:={s with d:={s.d with d:=n+2,c:=n+2},c:=a}
inductive us(n:O)(s:aB)(c:aJ):O->U V->aB->aJ->Prop|a:us n s c 1 [.b 1,.a (n+1:O)] s c|b(d:ej)(X:cZ (n+1) d)(h:d.d=aw s.c.d (n+1) 0)(z:d.b=s.c.b)(e:∀u,u<=n->(0<=d.c u↔0<=s.c.c u))(f:0<=d.c (n+1)):us n s c 0 [.b 1,.a (n+1:O)] (s.t n d) c
theorem PM{x:V}(M:x=.a (n+1:O))(j:i1 n s)(o:n+1<=4)(B:cZ n s.c)(E:∀f,cZ (n+1) f->f.d=aw s.c.d (n+1) 0->f.b=s.c.b->(∀u,u<=n->(0<=f.c u↔0<=s.c.c u))->0<=f.c (n+1)->K .z {s with d:={s.d with d:=n+2,c:=n+2},c:=f} c):aO a2 (d+4) 5 [.b 1,x] (bJ K)<|aL s c:=by
 refine J M<|cb I I I<|dM ?_;intro L a';let D:ej->aB:=s.t n;refine l0.mk (us n s c) 1 .a λb' c' d' e' F=>F.casesOn ?_ λf X H N P Q=>wX (m:=n+1) (s:=D f) I (zA o) ⟨λw=>aA (bU w)<|@Gt _,λR=>E f X H N P Q⟩
 .refine wX j.1 ((aq [1,1] I:ap 1 0 [.g (.h .a)<|.c 4] (.g .a<|.c 5)) o) ⟨λR=>?_,λw=>aA (cg w)<|@Gq _⟩;let r:ej:=⟨aw s.c.d (n+1) 0,aw s.c.c (n+1)<|-1,s.c.a,s.c.b⟩;haveI T:cZ (n+1) r:=by
   refine⟨λi x M=>dC (B.b i x M) λu y S C W=>dQ u y S (j0 C)<|(aG<|bj<|mx C).trans W,λu t p=>?_⟩
   .haveI p:0<=aw s.c.c (n+1) (-1) u:=p;by_cases e:u=n+1
    .subst e;rw[aR]at p;exact aA p as
    .rw[aG e]at p;exact ay (B.g u (l1 e t) p) λi y S=>aF i ((aG e).trans y) S
  let A:aB:={s with d:={s.d with d:=n+2},c:=(⟨aw s.c.d (n+1) 0,s.c.c,s.c.a,s.c.b⟩:ej)};exact p5 ⟨I,bk⟩ I (j.1▸cX o as:s.d.d<bi) bk A (J (j.1.symm▸I:aw s.c.d s.d.d 0=aw s.c.d (n+1) 0)<|j.1.symm▸I:A.l=f0 s.l 1 30 (.m (s.d.d+1)<|aw s.c.d s.d.d 0)) ⟨I,bk⟩ I (j.2.1▸cX o as:s.d.c<bi) bk<|aF (D r) (J (j.2.1.symm▸I:aw s.c.c s.d.c (-1)=aw s.c.c (n+1) (-1))<|j.2.1.symm▸I:(D r).l=f0 A.l 1 31 (.m (s.d.c+1)<|aw s.c.c s.d.c<|-1))<|wX (m:=n+1) (s:=D r) I (zA o)<|Dr (n:=n+1) (v:=n+1) (s:=D r) I (aP I I o) T ⟨gD _,b4 _⟩ λk G=>⟨0,mz,.b k G.1 G.2.1 G.2.2.1 (λu t=>(G.2.2.2 u<|j0 t).trans (J (aG<|bj<|mx t) ⟨λq=>q.resolve_right<|bj<|mx t,aK⟩:0<=aw s.c.c (n+1) (-1) u\/u=n+1↔_))<|(G.2.2.2 (n+1)<|b4 _).mpr<|a1 I⟩
end
end
mutual
def nj(n m:O):dn:=⟨n+1,n+1,n+1,n+1,n+1,2*n+2,n+1,n+1,n+1,n+1,m,m,m,m⟩
structure cD(n m:O)(x:dn):Prop where
 d:x=nj n m
 i:n<=4
 c:m<=1000
theorem sJ{j m k:O}(e:m=k)(C:k<=1000)(A:j<k):d5 j m:=aP (eT _) (eN.mpr<|e▸A)<|e▸aH C as
theorem eG{α:Type}{l:U α}(h:j<Z l)(x:Z l<=1000):d5 j (Z l):=sJ I x h
structure aT(c e:aJ):Prop where
 d:c.d<=e.d
 a:∀k,k<c.d->e.a k=c.a k
theorem aT.j:aT e e:=⟨b4 _,λp p=>I⟩
theorem aT.i(h:aT e f)(g:aT f l):aT e l:=⟨aH h.d g.d,λk C=>(g.a k<|ci C h.d).trans<|h.a k C⟩
theorem aT.b(x:b8):aT e<|e.b x:=⟨cO _,λk C=>aG<|bj C⟩
end
section
variable{n m:O}{s:aB}
mutual
theorem cD.p(x:cD n m s.d):i1 n s:=aP (aW dn.d x.d) (aW dn.c x.d) x.i
theorem cD.b(x:cD n m s.d)(h:v<=n):d5 v s.d.b:=hn (aW dn.b x.d) x.i h
theorem cD.e(x:cD n m s.d)(h:v<=n):d5 v s.d.e:=hn (aW dn.e x.d) x.i h
theorem cD.j(x:cD n m s.d)(h:v<=n):d5 v s.d.j:=hn (aW dn.j x.d) x.i h
theorem cD.h(x:cD n m s.d)(a:v<=n):d5 v s.d.h:=hn (aW dn.h x.d) x.i a
theorem cD.o(x:cD n m s.d)(h:v<=n):d5 v s.d.o:=hn (aW dn.o x.d) x.i h
theorem cD.f(x:cD n m s.d)(h:v<=n):d5 v s.d.f:=hn (aW dn.f x.d) x.i h
theorem cD.q(x:cD n m s.d)(h:v<=n):d5 v s.d.q:=hn (aW dn.q x.d) x.i h
theorem cD.a(x:cD n m s.d)(h:v<m):d5 v s.d.a:=sJ (aW dn.a x.d) x.c h
theorem cD.g(x:cD n m s.d)(h:v<m):d5 v s.d.g:=sJ (aW dn.g x.d) x.c h
theorem tc(M:bt n x):bK x<2*n+2:=by
 unfold bK;split
 .exact(aq [1,2] I:ap 2 0 [.g .a .b] (.e (.m 2 .a)<|.e (.m 2 .b)<|.c 2)) M.2
 .exact(aq [1,2] I:ap 2 0 [.g .a .b] (.e (.h<|.m 2 .a)<|.e (.m 2 .b)<|.c 2)) M.2
theorem cD.k(a:cD n m s.d)(h:bt n x):d5 (bK x) s.d.k:=sJ (aW dn.k a.d) (aH (lJ (Nat.mul_le_mul_left 2 a.i) 2) as)<|tc h
theorem cD.l(a:cD n m s.d)(h:bt n x):bK x<s.d.k:=J (aW dn.k a.d)<|tc h
end
variable{d:O}{c:aJ}{K:br}
mutual
theorem jS(l:y=.a x)(k:cD n m s.d)(M:bt n x)(h:K (.a<|a4 s.b.b x) s c):aO a2 (d+1) 23 [.b 0,y] (bJ K)<|aL s c:=by
 refine J l ?_;refine cb I I I ⟨λe=>⟨I,?_⟩,λe=>⟨I,?_⟩⟩
 .haveI e:=bU e;haveI p:=k.b M.2;rw[a4,a9 e]at h;rw[gj<|jY e]at p;rw[show ao x=bM x from yS (gj<|mU e)<|eU<|mU e]at h;exact⟨p,h⟩
 .haveI e:=cg e;haveI p:=k.b M.2;rw[a4,bf e]at h;rw[oZ<|gW.mp e]at p;rw[show ao x=bM (-x)from(dR [1,1,0,0,1] [1,0,1,1] I I:ap 2 1 [.c .g<|.r .a,.c .j<|.r .a] (.a .a .b)) (oZ<|zN e)<|eU<|(aq [1,1] I:ap 0 1 [.f<|.b .i .a] (.d .i<|.r .a)) e]at h;exact⟨p,h⟩
theorem oJ(T:Z s.b.f<=100)(h:K (.a (Z s.b.f)) s c):aO a2 (d+1) 24 [.b 0] (bJ K)<|aL s c:=cb I I I<|aP I (aH T as) h
theorem P3(e:y=.a v)(x:cD n m s.d)(P:v<=n)(h:K (.a<|s.b.h v) s c):aO a2 (d+1) 25 [.b 0,y] (bJ K)<|aL s c:=J e<|cb I I I<|aP I (x.h P) h
theorem qA(f:y=.a x)(M:x≠0)(b:K (.a<|bK x) s c):aO a2 (d+1) 17 [y] (bJ K)<|aL s c:=by
 refine J f ?_;refine cb I I I ⟨λe=>⟨by decide,?_⟩,λe=>⟨by decide,?_⟩⟩
 .haveI e:=bU e;haveI n:2*x=(bK x):=by rw[bK,a9 e];exact(c8 [1,0,2] [1,2] I I:ap 1 1 [.c .g .a] (.c (.m 2 .a)<|.p<|.m 2 .a))<|gj<|mU e
  exact(n▸b:K (.a<|2*x) s c)
 .haveI e:=cg e;haveI n:1-2*x=(bK x):=by rw[bK,bf e];exact(c8 [1,0,2] [1,2] I I:ap 1 1 [.c .g<|.r .a] (.c (.d .k<|.m 2 .a)<|.p<|.h<|.m 2 .a))<|oZ<|zN e
  exact(n▸b:K (.a<|1-2*x) s c)
theorem PR(h:K (.g [.a (ao x),.a x]) s c):aO a2 (d+1) 18 [.a x] (bJ K)<|aL s c:=cb I I I h
theorem PS(b:K (.g [.a (ao x),.h<|a0<|0<x]) s c):aO a2 (d+1) 60 [.a x] (bJ K)<|aL s c:=cb I I I b
def hZ(s:aB)(x:am):am:=if a4 s.b.b x=-1 then s.b.e (ao x)else Z s.b.f+1
theorem PL(f:cD n m s.d)(T:Z s.b.f<=100)(M:bt n x)(h:K (.a<|hZ s x) s c):aO a2 (d+2) 29 [.b 0,.a x] (bJ K)<|aL s c:=by
 refine cb I I I<|dM ?_;intro i g;refine jS I f M ⟨λe=>oJ T ?_,λe=>?_⟩
 .rw[hZ,bf<|bU e]at h;exact h
 .rw[hZ,a9<|oV.mp<|cg e]at h;exact aP I (f.e M.2) h
theorem wY(M:x≠.d)(h:K .z s c):aO a2 (d+1) 53 [.b 0,x] (bJ K)<|aL s c:=cb I I (by induction x using V.casesOn<;>first|rfl|exact aA I M) h
theorem PT(a:K (.h ax) s c):aO a2 (d+1) 54 [.b 0] (bJ K)<|aL s c:=cb I I I a
theorem PH(h:K (.p "sat") s c):aO a2 (d+1) 57 [.b 0] (bJ K)<|aL s c:=cb I I I h
theorem wV(h:K (.g s.n) s c):aO a2 (d+1) 41 [.b 0] (bJ K)<|aL s c:=cb I I I h
theorem It(e:s.m o a=.l (ia x))(h:P (ia x)):mb s c o a P:=by unfold mb;refine J e ?_;induction x<;>exact h
theorem PJ(h:K (ia s.r) s c):aO a2 (d+1) 42 [.b 0] (bJ K)<|aL s c:=cb I I I<|It (P:=λv=>K v s c) I h
structure yJ(t:b3)(l:U am)(k:am):Prop where
 a:0<=k
 e:∀x∈l,t.e (ao x)<=k
 g:k=0\/∃x∈l,t.e (ao x)=k
theorem ol{f:db}(h:s.m o g=.n m f)(y:b<m):ho (.j (.a o g b)<|c.e<|.a o g b) s c<|(f b).map V.a:=λd=>by
 haveI e:(aL s c).i (.j (.a o g b)<|c.e<|.a o g b)=Y (aD<|f b):=by refine(J (a9 I)<|J (lp h<|lr m f) ?_:(if c.e (.a o g b)=c.e (.a o g b)then(match(aL s c).c o g with|.a x=>x[b]?|_=>au)else au)=_);simp[y]
 exact(J e I:((aL s c).i<|.j (.a o g b)<|c.e<|.a o g b).map (λl=>l[d]?)=_)
inductive uE(s:aB)(c:aJ)(q:O)(p:U am):U V->aB->aJ->Prop|mk(k:am)(y:V)(T:yJ s.b p k):uE s c q p [.b 0,.a q,.a k,y] s c
theorem P6(u:x=.a q)(i:cD n m s.d)(M:q<m)(P:∀y∈s.a q,bt n y)(h:∀k,yJ s.b (s.a q) k->K (.a k) s c):aO a2 (d+1) 31 [.b 0,x] (bJ K)<|aL s c:=by
 refine J u<|cb I I I<|aP I (i.a M) ⟨am,s.a q,V.a,uE s c q,λp L X l G=>G.casesOn λj j j=>ol I<|J (aW dn.a i.d) M,.mk _ _ ⟨gz _,λj q=>aC q ar,aK I⟩,?_,λL X l G=>G.casesOn λk z T=>h k T⟩
 .refineλp y r L X l e G=>G.casesOn λk z T=>?_;obtain⟨A,o,Q⟩:=T;refine aP I (i.e (P y<|J e<|dN _<|bu ..).2)<|uE.mk _ _ ?_;split
  .next g=>exact⟨ey A<|jY g,λw t=>aE (cK.mp t) (λf=>ey (o w f)<|jY g) λf=>J (b9.mp f)<|gz _,a1<|aF y (dN _<|gA _) I⟩
  .next g=>exact⟨A,λw t=>aE (cK.mp t) (o w) λf=>J (b9.mp f)<|gW.mp g,Q.imp id λv=>ay v λw f B=>aF w (ii _ f) B⟩
end
end
section
variable{d n m:O}{s:aB}{c:aJ}{K:br}
mutual
theorem lb(h:¬(0=o/\12=a)):dz g o a (.a 0 12 i)=g (.a 0 12 i):=bf h
def fb(c e:aJ):Prop:=∀i,e.e (.a 0 12 i)=c.e (.a 0 12 i)
theorem qz(u:y=.a x)(E:g=.a q)(l:cD n m s.d)(M:bt n x)(T:Z s.b.f<=100)(D:Z s.b.a<=100)(v:K .z {s with b:=s.b.i x q} c):aO a2 (d+2) 32 [.b 0,y,g] (bJ K)<|aL s c:=by
 subst u E;refine cb I I I ?_;haveI r:∀w,w=ib x->bs (aO a2<|d+1) (.d (.b (.i (.f (.c 0) 0 1)<|.c 3)<|.a w)<|.d (.b (.i (.f (.c 0) 0 2)<|.c 3)<|.j (.c 0) 0 24 .d)<|.d (.b (.i (.f (.c 0) 0 3)<|.c 3)<|.c 2)<|.d (.b (.i (.f (.c 0) 0 4)<|.c 3)<|.k<|.f (.c 0) 0 8)<|.f<|.o (.f (.c 0) 0 8)<|.c 1) (eg K) [.b 0,.a x,.a q,.a (ao x)] s c:=by rintro w rfl;let B:={s.b with b:=aw s.b.b (ao x)<|ib x};let X:={B with e:=aw s.b.e (ao x) (Z s.b.f)};let t:={X with j:=aw s.b.j (ao x) q};let A:b3:={t with h:=aw s.b.h (ao x) (Z s.b.a)};exact bV I (l.b M.2) bk<|aF ({s with b:=B}) I<|oJ T<|sF I (l.e M.2) bk ({s with b:=X}) I I (l.j M.2) bk ({s with b:=t}) I<|fh I (aH D as) I (l.h M.2) bk<|h1 ({s with b:=A}) I ⟨I,bk⟩ I (cX D as)<|md bk _ I v
 exact⟨λp=>r 1 (a9<|bU p).symm,λp=>r (-1) (bf<|cg p).symm⟩
theorem Dm(D:Z s.b.a<=100)(T:Z s.b.f<=100)(h:K .z {s with b:=s.b.o} c):aO a2 (d+1) 33 [.b 0] (bJ K)<|aL s c:=cb I I I<|ko ⟨I,bk⟩ I (aH D as) I (cX T as) bk<|bO ({s with b:=s.b.o}) I (λe=>aC e ar) λp=>h
def aB.C(s:aB)(c:U am)(o:am)(b:ba):aB:={s with d:={s.d with a:=s.d.a+1,g:=s.d.g+1,i:=s.d.i+1,l:=s.d.l+1},a:=aw s.a s.d.a c,g:=aw s.g s.d.g o,j:={s.j with i:=aw s.j.i s.d.i b,l:=aw s.j.l s.d.l 0,a:=if b=an then s.j.a+1 else s.j.a}}
theorem Du(R:x=.g (aD f))(S:y=.a r)(T:z=.h t)(w:cD n m s.d)(W:m<1000)(X:Z f<=100)(A:∀u,aT c u->(∀p,p≠m->u.e (.a 0 12 p)=c.e (.a 0 12 p))->K (.a m) (s.C f r t) u):aO a2 (d+1) 27 [.b 0,x,y,z] (bJ K)<|aL s c:=by revert t x y z;revert d n m s c K f r;refine@fk _<|e0 @(letI d:=_;letI n:=_;letI m:=_;letI s:=_;letI c:=_;letI K:=_;letI f:=_;letI r:=_;(e3 ?_:eE _ _ d n m s c K f r));intros;subst R S T;haveI B:=aW dn.a w.d;haveI C:m<bi:=ci W as;haveI L:s.d.a<bi:=J B C;let E:={s with d:={s.d with a:=s.d.a+1},a:=aw s.a s.d.a f};let F:={E with d:={E.d with g:=s.d.g+1},g:=aw s.g s.d.g r};let D:={F with d:={F.d with i:=s.d.i+1},j:={s.j with i:=aw s.j.i s.d.i t}};let N:={D with d:={D.d with l:=s.d.l+1},j:={D.j with l:=aw s.j.l s.d.l 0}};let v:={c.b (.e<|aD f)with e:=ff c.e<|.a 0 12 s.d.a,a:=aw (c.b<|.e<|aD f).a c.d au};have M:∀p,p≠m->v.e (.a 0 12 p)=c.e (.a 0 12 p):=λp G=>bf λq=>G (by cases q;exact B);haveI H:aT c v:=⟨cO _,λb' P=>(aG<|bj P).trans<|aG<|bj P⟩;haveI k:K (.a s.d.a) (s.C f r t) v:=J B<|A v H M;haveI A:K (.a s.d.a) (s.C f r t) {v with e:=dz v.e 0 16}:=J B<|A _ ⟨H.d,H.a⟩ λp G=>(lb (g:=v.e) (o:=0) (a:=16) as).trans<|M p G;refine cb I I I (?_:let Q:=_;bs _ _ _ Q _ _);intro Q;refine ko I (f4 L) ⟨I,bk⟩ (by unfold aD;rw[bv];exact aH X as) I L<|h4 c.d f E I<|sD aR I ⟨I,bk⟩ I ((aW dn.g w.d)▸C:s.d.g<bi) bk F I<|p5 ⟨I,bk⟩ I (J (aW dn.i w.d) C:s.d.i<bi) bk D I ⟨I,bk⟩ I (J (aW dn.l w.d) C:s.d.l<bi) bk ⟨N,I,?_⟩;cases t with|true=>exact⟨λa'=>eP I ar ({N with j:={N.j with a:=s.j.a+1}}) I A,λq=>aC q ar⟩|false=>exact⟨λq=>aC q ar,λa'=>k⟩
theorem A7{f l:U am}(e:f=l)(h:bS l j 0=b):V.a (bS f j 0)=.a b:=J e<|J h I
theorem DA(v:x=.a q)(j:cD n m s.d)(M:q<m)(e:s.a q=f::i::r)(l:bt n f)(o:bt n i)(C:Z (f::i::r)<=100)(A:∀p,Z (s.k p)<=1000)(h:K .z {s with k:=kI s.k q<|f::i::r} c):aO a2 (d+2) 28 [.b 0,x] (bJ K)<|aL s c:=by
 refine J v ?_;haveI t:Z (s.a q)<=1000:=J e<|aH C as;let G:=aw s.k (bK f)<|s.k (bK f)++[(q:am)];have u:∀p,Z (s.k p)<bi:=λp=>cX (A p) as;haveI Q:∀p,Z (G p)<bi:=λp=>by
  refine(?_:Z (aw s.k _ _ p)<_);by_cases g:p=bK f
  .exact J g<|J aR<|J bI<|cX (lJ (A _) _) (by decide:1000+1<bi)
  .exact J (aG g)<|u p
 refine cb I I I<|dM ?_;intro w y;refine fh I (j.a M) I (aW dn.a j.d▸M) (eG (J e<|gD _) t)<|qA (A7 e I) l.1<|sD I (j.k l) (aP I (j.l l) bk) I (j.l l) (u _) ({s with k:=G}) I ⟨I,aW dn.a j.d▸M,eG (J e<|xL<|gD _) t,qA (A7 e I) o.1<|sD I (j.k o) ⟨I,j.l o,bk⟩ I (j.l o) (Q _) _ I h⟩
theorem lx(e:b2 N=p++x::r):x=Z p/\x<N:=by
 haveI h:(b2 N)[(Z p)]?=Y x:=by refine J e ?_;simp
 haveI n:=dB h;rw[cl n]at h;simp at h;rw[ec]at n;exact⟨h.symm,az h n⟩
theorem mh{d k:am}{N:O}(h:k=d+N):ho (.x d k 1) s c<|(b2 N).map λi:O=>V.a<|d+i:=λi=>by
 refine(?_:(if(0:am)<1 then Y (if d+1*i<k then Y (V.a<|d+1*i)else au)else if(1:am)<0 then Y (if k<d+1*i then Y (V.a<|d+1*i)else au)else au)=_);rw[a9 as,fL,Ew];by_cases l:i<N
 .exact J (a9 (by exact(aq [1,0,1,1] I:ap 2 2 [.c .a<|.e .b .g,.e .b .a] (.b (.e .b .j) .a)) h l))<|J (o0 l) I
 .exact J (bf (by exact(aq [1,1,0,1] I:ap 2 2 [.c .a<|.e .b .g,.f<|.e .b .a] (.f<|.b (.e .b .j) .a)) h l))<|J (gX<|J ec<|tN l) I
theorem v1{k m:am}{N:O}(h:m=k-N):ho (.x k m<|-1) s c<|(b2 N).map λi:O=>V.a<|k-i:=λi=>by
 refine(?_:(if 0< -1 then Y (if k+-1*i<m then Y (V.a<|k+-1*i)else au)else if(-1)<0 then Y (if m<k+-1*i then Y (V.a<|k+-1*i)else au)else au)=_);refine J (bf as) (J (a9 as) (J fL (J (aW (k+·)<|Ev _) ?_)));refine aE (eo<|i<N) (λl=>?_) λl=>?_
 .refine J (a9 (by exact(aq [1,1,0,1] I:ap 2 2 [.c .a<|.d .b .g,.e .b .a] (.b .a<|.d .b .j)) h l))<|J (o0 l) ?_;rfl
 .refine J (bf (by exact(aq [1,0,1,1] I:ap 2 2 [.c .a<|.d .b .g,.f<|.e .b .a] (.f<|.b .a<|.d .b .j)) h l))<|J (gX<|J ec<|tN l) ?_;rfl
theorem D4{f:O->α}{x:α}:aw (cE f l x) (ao y) x=cE f (y::l) x:=by
 funext v;refine aE (eo<|v=ao y) (λe=>J e<|J aR<|J (tv<|aF y (bu ..) I) I) λe=>?_
 .refine J (aG e) ?_;unfold cE;refine aE (eo<|∃w∈l,ao w=v) (λg=>J (a9 g)<|J (a9 (by exact ay g λw a b=>aF w (cm _ a) b)) I) λg=>?_
  .rw[bf g,bf];rintro⟨w,a,b⟩;rcases cu.mp a with rfl|a
   .exact e b.symm
   .exact g<|aF w a b
theorem oP{f:O->α}{x:α}:cE f [] x=f:=jy λv=>iH λX=>ay X λp h p=>aC h ar
theorem MO{a b:am}:(if b<a then b else a)=min a b:=by
 rw[Int.min_def];by_cases h:b<a
 .exact J (a9 h)<|J (bf<|qM.mpr h) I
 .exact J (bf h)<|J (a9<|gW.mp h) I
theorem xj:(aD l).take k=aD (l.take k):=List.map_take.symm
def aB.y(s:aB)(t:b3)(f:O->am)(h:ej):aB:={s with b:=t,j:={s.j with o:=f},c:=h}
def aB.B(s:aB)(i:O)(f:O->am)(h:ej):aB:=s.y {s.b with b:=cE s.b.b (s.b.a.drop i) 0,j:=cE s.b.j (s.b.a.drop i)<|-1} f h
inductive mM(n k q:O)(s:aB)(c:aJ)(i:O):U V->aB->aJ->Prop|mk(f:O->am)(d:ej)(y z:V)(G:nU n s (λu=>0<=s.c.c u\/∃y∈s.b.a.drop i,ao y=u) d):mM n k q s c i [.b 0,.a k,.a<|Z s.b.f-k,.a q,y,z] (s.B i f d) c
theorem mM.a(h:mM n k q s c i L b r)(x:e=i)(d:w=b):mM n k q s c e L w r:=by subst x d;exact h
theorem jR{k:O}{x:V}(r':x=.a k)(M:cD n m s.d)(T:bG n s.b)(s':cZ n s.c)(S:Z s.b.f<=100)(t':Z s.b.f<=k->K .z s c)(Q:∀q:O,s.b.f[k]?=Y (q:am)->∀v t A,aT c A->fb c A->nU n s (λu=>0<=s.c.c u\/∃y∈s.b.a.drop q,ao y=u) t->K .z (s.y (s.b.r k q) v t) A):aO a2 (d+4) 34 [.b 0,x] (bJ K)<|aL s c:=by
 revert d n m s c K k x;refine@fk _<|e0 @(letI d:=_;letI n:=_;letI m:=_;letI s:=_;letI c:=_;letI K:=_;letI k:=_;letI x:=_;(e3 ?_:eE _ _ d n m s c K k x));intros;refine J r'<|cb I I I<|dM ?_;intro z' A';refine oJ S ⟨λC=>t' ?_,λC=>?_⟩
 .haveI C:=bU C;exact(aq [1,1] I:ap 2 0 [.d (.d .g .j) .i] (.g .a .b)) C
 haveI C:=cg C;have W:k<Z s.b.f:=(aq [1,1] I:ap 2 0 [.f<|.d (.d .g .j) .i] (.e .b .a)) C;obtain⟨q,d'⟩:∃q:O,s.b.f[k]?=Y (q:am):=⟨bM s.b.f[k],J (cl W)<|J (eU (T.d _<|kN W).1) I⟩;haveI Q:=Q q d';refine b6 (T.d _<|dZ d') λu' v' B'=>?_;have R:=aH T.k M.i;refine aP I (eG W<|aH S as) (J (fV d') ?_:bs _ _ _ [.b 0,.a k,.a<|Z s.b.f-k,.a<|bS s.b.f k 0,.d,.d] _ _);haveI e':(q:am)-1=(Z s.b.a-1:am)-(Z s.b.a-q:O):=zO<|cy<|(aq [1,1] I:ap 2 0 [.d .g .j] (.g .a .b)) (by assumption);refine fg I (aH R as) ⟨s4 ((aq [1,1] I:ap 1 0 [.g .a<|.c 4] (.b (.d .g .k)<|.p<|.c<|2^30)) R)<|@r8 _,s4 ((aq [1,1,1] I:ap 2 0 [.d .g .j,.g .b<|.c 4] (.b (.d .g .k)<|.p<|.c<|2^30)) (by assumption) (by assumption))<|@r8 _⟩ (a1 I) ⟨O,b2<|Z s.b.a-q,λf'=>V.a<|(Z s.b.a-1)-f',λB=>mM n k q s c<|Z s.b.a-Z B,λB m' n' A _=>v1 e',?_,?_,?_⟩
 .haveI C:s=s.B (Z s.b.a) s.j.o s.c:=by unfold aB.B;refine J EB<|oP▸(J oP ?_);rfl
  exact mM.a (.mk _ _ _ _<|bV s' I I λu g'=>⟨aK,λh'=>aE h' id λw'=>ay w' λy D g'=>aC (az EB D:y∈([]:U am)) ar⟩) I C
 .refineλB f' C' m' n' A C i'=>i'.casesOn λv t y x' G=>?_;obtain⟨rfl,X⟩:=lx C;have r:Z s.b.a-(Z B+1)<Z s.b.a:=(aq [1,1] I:ap 3 0 [.a (.e .a<|.h .b) .f] (.e .a .f))<|cy<|u4 X<|gC _ _;refine bH (⟨_,cl r⟩:∃w,s.b.a[Z s.b.a-(Z B+1)]?=Y w) λw L=>aM (T.s _ _ L) λP g'=>?_;have o':s.b.a.drop (Z s.b.a-(Z B+1))=w::s.b.a.drop (Z s.b.a-Z B):=by refine J (xw r)<|J (show Z s.b.a-(Z B+1)+1=Z s.b.a-Z B from(dR [1,1,0,0,1] [1,0,1,1] I I:ap 4 0 [.a (.e .a<|.h .b) .f,.a (.e .l .b) .f] (.a (.h .a) .l)) (cy<|u4 X<|gC _ _)<|cy<|(aq [1,1,1] I:ap 3 0 [.e .a .b,.g .b .f] (.g .a .f)) X<|gC _ _) ?_;congr 1;rw[cl r]at L;exact bE L
  refine J (show(Z s.b.a-1:am)-Z B=(Z s.b.a-(Z B+1):O)from(c8 [1,0,1] [1,1] I I:ap 3 0 [.a (.e .a<|.h .b) .f] (.c (.d (.d .s .k) .j) .g))<|cy<|u4 X<|gC _ _)<|aP I (eG r<|aH R as) (J (fV L) ?_:bs _ _ _ [_,_,_,_,_,.a ((ao (bS s.b.a (Z s.b.a-(Z B+1)) 0):O):am)] _ _);let N:=s.B (Z s.b.a-Z B) v t;let p':=aw v (ao w)<|N.b.b (ao w);let F:={N with j:={N.j with o:=p'}};let H:={F with b:={F.b with b:=aw F.b.b (ao w) 0}};let E:={H with b:={H.b with j:=aw H.b.j (ao w)<|-1}};have j':E=s.B (Z s.b.a-(Z B+1)) p' t:=by unfold aB.B;refine o'.symm▸(az D4<|az D4 ?_);rfl
  refine(fh I (M.b P.2) I (M.o P.2) bk (aF F I (sF I (M.b P.2) bk H I I (M.j P.2) bk E I (Dr I M.p G.1 ⟨jn.mpr P.1,P.2⟩ λQ a'=>(mM.a (.mk _ _ _ _<|bV a'.1 (a'.2.1.trans G.2.1) (a'.2.2.1.trans G.2.2.1) λu q'=>?_) (aW (Z s.b.a-·) bI) ((aW (·.o Q) j').trans I))))))
  .refine J o'<|(a'.2.2.2 u q').trans (?_:(0<=t.c u\/u=ao w)↔_);rw[G.2.2.2 u q'];constructor
   .rintro((D|⟨y,D,b'⟩)|rfl)
    .exact aK D
    .exact a1<|aF y (cm _ D) b'
    .exact a1<|aF w (bu ..) I
   .rintro(D|⟨y,D,b'⟩)
    .exact aK<|aK D
    .rcases cu.mp D with rfl|D
     .exact a1 b'.symm
     .exact aK<|a1<|aF y D b'
 .refineλm' n' A i'=>i'.casesOn λv t y x' G=>?_;have y':Z s.b.a-Z (b2<|Z s.b.a-q)=q:=J ec<|(dR [1,0,1,1] [1,1,0,0,1] I I:ap 4 0 [.c (.d .g .k)<|.d (.d .j .k) .s,.a (.e .l .f) .b] (.a .l .a)) e'<|cy<|(aq [1,1] I:ap 3 0 [.c (.d .g .k)<|.d (.d .j .k) .s] (.g .f .b)) e';rw[y']at G⊢;let N:=s.B q v t;let F:={N with b:={N.b with a:=s.b.a.take q}};let H:={F with b:={F.b with f:=s.b.f.take k}};let E:={H with b:={H.b with g:=if q<s.b.g then q else s.b.g}};haveI j':E=s.y (s.b.r k q) v t:=by unfold E;refine J MO ?_;rfl
  refine ko I I (eT _) (R8 (eb.mpr<|aH (eb.mp v') R) as) (aH R as) I<|lk ar (.o<|s.b.a.take q)<|aF F (aR.trans<|aW (λk'=>Y<|b8.e k') xj)<|bV (gw _) I I<|ko I I (eT _) (qL (eN.mpr<|ci W S) as) (aH S as) I<|lk ar (.o<|s.b.f.take k)<|aF H (aR.trans<|aW (λk'=>Y<|b8.e k') xj)<|bV (gw _) I I ?_;refine na I ar E I I<|md ar E ?_ ⟨λh'=>aC h' ar,λg'=>?_⟩
  .show E.l=f0 E.l 0 11 (.l<|.a<|if(q:am)<0 then q else 0);refine J (bf<|gW.mpr u') ?_;rfl
  .refine(J j' ?_:K .z E _);exact Q v t _ ⟨aH (cO _)<|cO _,λl' c'=>(J (aG (bj<|er c':l'≠c.d+1))<|J (aG (bj<|er c':l'≠c.d+1))<|J (aG<|bj c')<|J (aG<|bj c') I:aw (aw (aw (aw c.a c.d _) c.d au) (c.d+1) _) (c.d+1) au l'=_)⟩ (λf'=>(lb (o:=0) (a:=11) as).trans<|(lb (o:=0) (a:=10) as).trans<|(lb (o:=0) (a:=9) as).trans<|lb (o:=0) (a:=8) as) G
end
end
mutual
theorem qy{α:Type}{l:U α}{f key:α->V}{j:V->α}(y:∀a,j (f a)=a)(h:hc i ((l.map f).map λx=>key<|j x) (l.map f) T):∃o:U α,o.Perm l/\T=o.map f/\o.Pairwise λa b=>if i=an then jb (key b) (key a)else jb (key a) (key b):=by
 refine ch h λd A m Q=>?_;haveI z:((l.map f).map λx=>key<|j x).zip (l.map f)=l.map λa=>(key a,f a):=by refine J go<|J SO<|kQ λa k=>(?_:(key<|j<|f a,f a)=_);rw[y]
 replace A:=z▸A;have e:∀p∈d,p=(key<|j p.2,f (j p.2)):=λp c=>by refine ay (bL.mp<|A.mem_iff.mp c) λa k H=>az H ?_;rw[y]
 refine bO (d.map λp=>j p.2) ?_ (J m<|J go<|kQ λp c=>aW iT<|e p c) ?_
 .haveI:=A.map λp:V×V=>j p.2;rw[go]at this;rw[show l.map ((λp:V×V=>j p.2)∘λa=>(key a,f a))=l from(kQ λa k=>y a).trans<|xE l]at this;exact this
 .rw[iQ];refine Q.imp_of_mem λ{a b}s n g=>?_;replace g:=(e b n)▸(e a s)▸g;exact g
theorem gt(e:L[i]?=Y v)(a:v≠.d)(h:P v):k2 L i P:=by delta k2;refine J e ?_;induction v using V.casesOn<;>first|exact h|exact aA I a
theorem wl:(∀v∈l,v≠.d)->ov l=an:=by induction l with|nil=>exactλp=>I|cons v r a=>intro h;have A:=h v<|bu ..;have i:=a λw t=>h w<|cm _ t;induction v using V.casesOn<;>first|exact i|exact aA I A
theorem qn(A:x≠.d)(i:y≠.d):ov [x,y]=an:=wl λv P=>aE (cu.mp P) (λe=>J e A) λe=>J (b9.mp e) i
def kr:V->am|.a i=>i|_=>0
def bQ(l:U O):U V:=l.map λv:O=>V.a v
theorem Ir(l:U O):dA<|bQ l:=λv h=>by refine ay (bL.mp h) λi p e=>az e ?_;trivial
theorem oa(h:a.a b=Y (.e l)):(aL f a).k (.e b)=Y l:=by unfold av.k;exact J (h6 h) I
theorem AI{f:db}(h:e.m o b=.n g f)(y:i<g):(aL e l).k (.j (.a o b i)<|l.e<|.a o b i)=Y (aD<|f i):=by unfold av.k;exact J (v8 I h y) I
end
section
variable{d n m:O}{s:aB}{c:aJ}{K:br}
mutual
theorem Dt(p:cD n m s.d)(q:(aL s c).k y=Y (bQ l))(j:y≠.d)(P:∀v∈l,v<=n)(A:Z l<=20)(h:∀o,o.Perm l->o.Pairwise (λf i=>s.b.h i<=s.b.h f)->K (.e c.d) s (c.b<|.e<|bQ o)):aO a2 (d+2) 26 [.b 0,y] (bJ K)<|aL s c:=by
 refine cb I I (qn ar j)<|dM ?_;intro u w;refine gt I j ?_;refine dQ (bQ l) q (Ir l) (by unfold bQ;rw[bv];exact(aq [1,1] I:ap 1 0 [.g .a<|.c 20] (.e .a<|.c 64)) A)<|aF (λx=>s.b.h (bM (kr x))) (λx M B W=>?_) λT z=>ch (qy (key:=λv=>V.a<|s.b.h v) (λC=>I) z) λo X H r=>J H<|h o X r
 .refine ay (bL.mp M) λv t H=>?_;subst H;exact P3 I p (P v t) W
def qc(x y:am):Prop:=(ao x:am)<ao y\/((ao x:am)=ao y/\x<=y)
theorem C9{P:br}(j:(aL s c).k y=Y (aD l))(A:Z l<=4)(h:∀o,o.Perm l->o.Pairwise qc->P (.e c.d) s (c.b<|.e<|aD o)):∃l,(aL s c).k y=Y l/\dA l/\Z l<=4/\∃b,(∀x∈l,∀i,i (b x) s c->aO a2 (d+1) 18 [x] (bJ i) (aL s c))/\nf (l.map b)/\∀T,hc ax (l.map b) l T->P (.e c.d) s (c.b<|.e T):=by
 refine dQ (aD l) j (gw l) (by unfold aD;rw[bv];exact A)<|bO (λx=>.g [.a (ao (kr x)),.a<|kr x]) (λx M i W=>?_) (aK λn C=>ay (bL.mp C) λx p H=>az H<|fu _ _ I) λT z=>ch (qy (f:=V.a) (key:=λx=>.g [.a (ao x),.a x]) (λp=>I) z) λo X H m=>J H<|h o X m
 .refine ay (bL.mp M) λv b H=>?_;subst H;exact PR W
theorem Dj(u:cD n m s.d)(T:Z s.b.f<=100)(w:(aL s c).k y=Y (aD p))(t:y≠.d)(z:∀v∈p,bt n v)(A:Z p<=4)(h:∀f,∀i j,f.Perm p->f.Pairwise (λq r=>hZ s r<=hZ s q)->aT c j->j.e=c.e->c.d<=i->j.a i=Y (.e<|aD f)->i<j.d->K (.e i) s j):aO a2 (d+3) 30 [.b 0,y] (bJ K)<|aL s c:=by
 refine cb I I (qn ar t)<|gt I t<|C9 (P:=λv=>bs (aO a2<|d+2) (.d (.l 2 (.c 0) 29 an)<|.a<|.c 2) (eg K) [.b 0,y,v]) w A λf X G=>kp (bO (.o f) aR I bk) (aD f) aR (gw f) (by unfold aD;rw[bv,fK X];exact u3 A)<|aF (λx=>hZ s<|kr x) (λx M L W=>?_) λN B=>ch (qy (key:=λx=>V.a<|hZ s x) (λQ=>I) B) λD E H F=>J H<|h D (c.d+1) _ (E.trans X) F ⟨aH (cO _)<|cO _,λi C=>(aG<|bj<|er C).trans<|(aG<|bj C).trans<|aG<|bj C⟩ I (cO _) aR<|b7 _
 .refine ay (bL.mp M) λv g H=>?_;subst H;exact PL u T (z v<|X.mem_iff.mp g) W
theorem fW(h:c.a k=Y (.e l)):ho (.e k) s c l:=λa=>(J (h6 h) I:((aL s c).i<|.e k).map (λl=>l[a]?)=_)
theorem jL:ho (.g l) s c l:=λi=>I
inductive hS(s:aB)(c:aJ):V->U V->Prop|e{k:O}{l:U V}:k<c.d->c.a k=Y (.e l)->hS s c (.e k) l|a{o b i m g:O}{f:db}:s.m o b=.n m f->i<m->g=c.e (.a o b i)->hS s c (.j (.a o b i) g) (aD<|f i)
theorem hS.f(h:hS s c y l):(aL s c).k y=Y l:=by cases h with|e A i=>exact oa i|a A i Q=>exact J Q<|AI A i
theorem hS.b(h:hS s c y l):y≠.d:=by cases h<;>exact ar
theorem hS.ext(h:hS s c y l)(b:aT c u)(g:u.e=c.e):hS s u y l:=by cases h with|e A i=>exact .e (ci A b.d)<|(b.a _ A).trans i|a A i Q=>exact .a A i<|J g Q
def sT(x y:am):Prop:=(ao x:am)<ao y\/((ao x:am)=ao y/\x<y)
theorem qc.e(h:qc x y)(a:x≠y):sT x y:=h.imp id λg=>⟨g.1,tG.mpr ⟨g.2,a⟩⟩
theorem sT.a(h:sT x y)(e:qc y x):bW:=by refine aE h (λh=>?_) λX=>aM X λA f=>?_<;>refine aE e (λe=>?_) λX=>aM X λk l=>?_<;>(first|exact(aq [1,1] I:ap 2 0 [.b .g .j,.b .j .g] .i) h e|exact(aq [1,1] I:ap 2 0 [.b .g .j,.c .j .g] .i) h k|exact(aq [1,0,1] I:ap 2 0 [.c .g .j,.b .j .g] .i) A e|exact(aq [1,1] I:ap 0 2 [.b .a .b,.d .b .a] .i) f l)
structure hA(p f:U am):Prop where
 e:f.Pairwise sT
 h:∀x,x∈f↔x∈p
theorem hA.i(D:hA p f)(d:∀y∈p,qc y x):(f=[]->hA (p++[x]) (f++[x]))/\∀z,f.getLast?=Y z->(z≠x->hA (p++[x]) (f++[x]))/\(z=x->hA (p++[x]) f):=by
 have R:x∉f->hA (p++[x]) (f++[x]):=λh=>⟨qR.mpr<|aP D.e (xG ..) λj s b k=>J (b9.mp k)<|(d j<|(D.h j).mp s).e λq=>h<|az q s,λy=>by rw[cK,cK,D.h]⟩;refine⟨λc=>R<|J c fO,λz E=>⟨λl=>R λM=>?_,λc=>⟨D.e,λy=>?_⟩⟩⟩
 .obtain⟨r,rfl⟩:∃r,f=r++[z]:=List.getLast?_eq_some_iff.mp E;exact aE (cK.mp M) (λM=>((qR.mp D.e).2.2 x M z<|gA _).a<|d z<|(D.h z).mp<|dN _<|gA _) λM=>l (b9.mp M).symm
 .refine az c ?_;rw[D.h,cK,b9];exact⟨aK,λg=>aE g id λg=>J g<|(D.h z).mp<|List.mem_of_getLast? E⟩
inductive lS(s:aB)(x:aJ)(t:O)(y:V)(p:U am):U V->aB->aJ->Prop|mk(f:U am)(z:V)(D:hA p f)(L:Z f<=Z p):lS s x t y p [y,.e t,z] s {x with a:=aw x.a t<|Y<|.e<|aD f}
theorem lS.a(h:lS s x t y p L X b)(e:f=b):lS s x t y p L X f:=J e h
set_option tactic.hygienic true in theorem oI{l:U am}{y:V}(N:hS s c y (aD l))(H:Z l<=4)(w:∀j:U am,∀b,hA l j->Z j<=4->aT c b->b.e=c.e->K (.g<|aD j) s b):aO a2 (d+2) 19 [y] (bJ K)<|aL s c:=by
 let Q:=c.b<|.e<|aD [];haveI z:bs (aO a2<|d+1) B7 (eg K) [y,.d,.d] s c:=by
  haveI a':=C9 (d:=d) (c:=Q) (P:=λb' s b=>uq b' (λS d'=>ns (aO a2<|d+1) (.a 2) S au<|bs (aO a2<|d+1) (.c (.B (.aa<|.c 1)<|.l dj (.i (.c 1)<|.v<|.a 1)<|.c 2) (.f<|.o (.c 1)<|.c 2) .e)<|sy d'<|oG (bs (aO a2<|d+1) (.a<|.E<|.c 1)<|eg K)<|eg K) (bs (aO a2<|d+1) (.a<|.E<|.c 1)<|eg K) [y,.e c.d,.d] s b) (N.ext (u:=Q) (aT.b _) I).f H λj X e'=>?_
  .exact gt I N.b a'
  .let u:=Q.b<|.e<|aD j;refine⟨am,j,V.a,lS s u c.d y,?_,?_,?_,?_⟩
   .exactλp L T b G=>G.casesOn λF F F F=>fW<|(aG<|qT _).trans aR
   .refine lS.a (.mk [] _ ⟨tH,λF=>oW⟩<|b4 _) ?_;haveI:u.a=aw u.a c.d (Y<|.e<|aD []):=jy λk=>by
     by_cases t:k=c.d
     .refine J t ?_;refine J aR ?_;exact(aG (qT _).symm).trans aR
     .exact J (aG t) I
    exact az this I
   .refineλp n q' L T b t G=>G.casesOn λm f' D C=>?_;have W:=aH C<|aH (f4<|t.symm▸(J bI<|J kP<|@zW _ _))<|(fK X)▸H;haveI h:Z m<=bi:=aH W as;obtain⟨g',h'⟩:=D.i (x:=n) λi' j'=>(qR.mp<|az t e').2.2 i' j' n (bu ..);haveI M:∀m,aw u.a c.d (Y<|.e<|aD m) c.d=Y (.e<|aD m):=λm=>aR;haveI q:Z (p++[n])=Z p+1:=bI;have r:hA (p++[n]) (m++[n])->bs (aO a2<|d+1) (.f<|.o (.c 1)<|.c 2) (sy (lS s u c.d y<|p++[n])<|oG (bs (aO a2<|d+1) (.a<|.E<|.c 1)<|eg K)<|eg K) [y,.e c.d,.a n] s {u with a:=aw u.a c.d<|Y<|.e<|aD m}:=λk'=>by
     refine kp (bO (.o m) (M m) I bk) (aD m) (M m) (by unfold aD;rw[bv];exact cX W as) bk<|lS.a (.mk (m++[n]) _ k'<|J q<|J bI<|fP C) ?_;haveI:aw (aw u.a c.d<|Y<|.e<|aD m) c.d (Y<|.e<|aD m++[.a n])=aw u.a c.d (Y<|.e<|aD<|m++[n]):=jy λk=>by
      by_cases t:k=c.d
      .refine J t ?_;rw[aR,aR,qK]
      .exact J (aG t)<|(aG t).symm▸(J (aG t) I)
     exact J this I
    refine h2 (.o m) (M m) I I h (λA=>⟨λF=>r<|g'<|iN.mp<|bU A,λl'=>aC l' ar⟩) λA=>?_;haveI m':m.getLast?=Y (bS m (Z m-1) 0):=by refine J List.getLast?_eq_getElem?<|J ih<|J (cl<|o4 (EP<|cg A) mz) ?_;rfl
    obtain⟨n',o'⟩:=h' _ m';exact bO (.o m) (M m) I<|a1<|fg I (EP<|cg A) h (λA=>r<|n'<|bU A) λA=>.mk m _ (o'<|oV.mp<|cg A) (by exact J q<|j0 C)
   .refineλL T b G=>G.casesOn λm f' D C=>?_;refine h2 (.o m) aR I I (gw m) (aH C<|aH ((fK X)▸H) as)<|w m _ ⟨D.e,λn=>(D.h n).trans (tI X)⟩ (aH C<|(fK X)▸H) ⟨aH (cO _)<|cO _,λk R=>?_⟩ I;exact(aG<|bj R).trans<|(aG<|bj<|er R).trans<|aG<|bj R
 exact cb I I (wl λS p'=>J (b9.mp p') N.b) z
end
end
mutual
theorem s1:V.a x∈aD l↔x∈l:=by unfold aD;rw[bL];exact⟨λX=>ay X λy h e=>by injection e with e;exact az e h,λh=>aF x h I⟩
theorem sv:∀z∈aD l,gP z (.a x):=λz h=>ay (bL.mp h) λy p W=>az W<|.a _ _
theorem D2(h:v≠.d)(p:P v):wm v P:=by induction v using V.casesOn<;>first|exact p|exact aA I h
end
section
variable{d n m:O}{s:aB}{c:aJ}{K:br}
mutual
theorem p7(b:K (.h<|a0<|x∈l) s c):l7 fp (.a x) (.g<|aD l) K s c:=bO (aD l) I ⟨sv,λq=>aC q ar⟩<|J (j6.mpr s1) b
theorem bN{K:eX}(h:bs C a (oG (bs C b K) K) L s c):bs C (.d a b) K L s c:=h
theorem dW{K:eX}(h:bh C e L (BD (ns C t) (hv e) (K .b) L) s c):bs C (.b t e) K L s c:=h
theorem vM{K:eX}(h:bh C e L (BE<|K .b L) s c):bs C (.f e) K L s c:=h
theorem sm(h:bh C a L (om (bh C b L) (vr F) K) s c):bh C (.m F a b) L K s c:=h
theorem d7(h:bh C a L (om (bh C e L) AQ K) s c):bh C (.b a e) L K s c:=h
theorem MT(h:K (.g []) s c):bh C .d L K s c:=h
theorem oN(h:bh C a L (jM (nr DZ) K) s c):bh C (.g a) L K s c:=h
theorem tr(h:bh C e L (BI K) s c):bh C (.E e) L K s c:=h
theorem kg(h:bh C a L (jM (nr<|sn C f) K) s c):bh C (.r f a) L K s c:=h
theorem eB(e:L[i]?=Y v)(a:v≠.d)(h:K v s c):bh C (.c i) L K s c:=gt e a h
theorem QP(h:K (.p x) s c):bh C (.p x) L K s c:=h
theorem M3(h:P):lt o (.b o) P:=by refine(?_:(match jr o o with|an=>P|ax=>bW));rw[Nat.beq_refl];exact h
theorem h9(e:L[i]?=Y (.b o))(h:bh C a L (jM (nr λl=>sn C (f+1)<|.b o::l) K) s c):bh C (.j (.c i) o (f+1) a) L K s c:=gt e ar<|M3 h
theorem mq{K:eX}(h:bh C e L (BH K L) s c):bs C (.a e) K L s c:=h
inductive um{α:Type}(s:aB)(R:aJ->Prop)(F:U α->U V)(n:O)(p:U α):U V->aB->aJ->Prop|mk{e:aJ}(l:R e)(a:Z p<=n):um s R F n p (F p) s e
theorem gH.l{α:Type}{R:aJ->Prop}(h:U α)(g:α->V)(F:U α->U V)(o:e6 i (Z L)=an)(q:R c)(A:∀b,R b->ho G s b (h.map g))(t:Z h<=1000)(u:∀x∈h,g x≠.d)(v:F []=[])(w:∀p,Z (F p)<=Z p)(C:∀p x,x∈h->∀b,R b->∀z:U V->aB->aJ->Prop,(∀f,R f->z (F<|p++[x]) s f)->B (L.set i<|g x) (λy=>z<|F p++[y]) (z<|F p) s b)(D:∀b,R b->K (.e b.d) s (b.b<|.e<|F h)):gH G i B K L s c:=⟨α,h,g,um s R F (Z h),o,λp a X b j=>j.casesOn λ{b}k n=>⟨A b k,cX (aH (w p)<|aH n t) as⟩,az v<|.mk q<|f7 _,λp x r a X b m j=>j.casesOn λ{b}k n=>D2 (u x<|m▸dN _ (bu ..))<|C p x (m▸dN _ (bu ..)) b k (um s R F (Z h)<|p++[x]) λf E=>.mk E<|J m<|bI.symm▸(J bI<|iR (fP<|f7 _) _),λa X b j=>j.casesOn λ{b}k H=>D b k⟩
theorem gH.e{C:ei}{i:O}{a:a5}{L:U V}{G:V}{α:Type}{R:aJ->Prop}(l:U α)(g f:α->V)(y:e6 i (Z L)=an)(q:R c)(A:∀b,R b->ho G s b (l.map g))(k:Z l<=1000)(m:∀x∈l,g x≠.d)(n:∀x∈l,∀b,R b->∀j:br,(∀h,R h->j (f x) s h)->bh C a (L.set i<|g x) j s b)(o:∀b,R b->K (.e b.d) s (b.b<|.e<|l.map f)):gH G i (λL K _=>bh C a L K) K L s c:=gH.l l g (SA f) y q A k m I (λp=>jt<|bv ..) (λp x M b r z t=>n x M b r _ λh u=>az (dY:(p++[x]).map f=p.map f++[f x])<|t h u) o
theorem gH.a{α:Type}{R:aJ->Prop}(l:U α)(g f:α->V)(b:α->ba)(y:e6 i (Z L)=an)(v:R c)(A:∀j,R j->ho G s j (l.map g))(w:Z l<=1000)(z:∀x∈l,g x≠.d)(D:∀x∈l,∀j,R j->∀o,(∀k,R k->o (.h<|b x) s k)->bh C t (L.set i<|g x) o s j)(B:∀x∈l,∀j,R j->∀o,o (f x) s j->bh C q (L.set i<|g x) o s j)(E:∀j,R j->K (.e j.d) s (j.b<|.e<|(l.filter b).map f)):gH G i (λL K P=>bh C t L<|h5 (bh C q L K) P) K L s c:=by
 refine gH.l l g (λp=>(p.filter b).map f) y v A w z I (λp=>aH (jt<|bv ..)<|gY ..) (λp x M j F H u=>D x M j F _ λk n=>⟨λr=>B x M k n _ ?_,λr=>?_⟩) E
 .haveI m:=u k n;rw[xx,dY,EE r]at m;exact m
 .haveI m:=u k n;rw[xx,ED λg=>nD<|bx r.symm g,List.filter_nil,dI]at m;exact m
theorem lc{α:Type}(l:U α)(g f:α->V)(m:∀a,a G s c->bh C b L a s c)(n:e6 i (Z L)=an)(A:ho G s c (l.map g))(o:Z l<=1000)(q:∀x∈l,g x≠.d)(r:∀x∈l,∀a,a (f x) s c->bh C p (L.set i<|g x) a s c)(t:K (.e c.d) s (c.b<|.e<|l.map f)):bh C (.y i b p) L K s c:=m _<|gH.e (R:=λu=>u=c) l g f n I (λk j=>j▸A) o q (λx M k j a h=>J j<|r x M a<|h _ I) λk j=>j▸t
theorem oc{α:Type}(l:U α)(g f:α->V)(b:α->ba)(q:∀a,a G s c->bh j k L a s c)(y:e6 i (Z L)=an)(A:ho G s c (l.map g))(r:Z l<=1000)(u:∀x∈l,g x≠.d)(D:∀x∈l,∀a,a (.h<|b x) s c->bh j t (L.set i<|g x) a s c)(v:∀x∈l,∀a,a (f x) s c->bh j p (L.set i<|g x) a s c)(w:K (.e c.d) s (c.b<|.e<|(l.filter b).map f)):bh j (.C i k t p) L K s c:=q _<|gH.a (R:=λz=>z=c) l g f b y I (λn m=>m▸A) r u (λx M n m a o=>J m<|D x M a<|o _ I) (λx M n m a o=>by subst m;exact v x M a o) λn m=>m▸w
def pA(o:U am):Prop:=∃(k:O)(x:am),o[k]?=Y x/\o[k+1]?=Y (-x)
inductive yH(s:aB)(c:aJ)(o:U am)(i:O):U V->aB->aJ->Prop|mk(z:V)(a:∀k x,k<i->o[k]?=Y x->o[k+1]?≠Y (-x)):yH s c o i [.g<|aD o,z] s c
theorem Dv(Q:y=.g (aD o))(A:Z o<=4)(R:pA o->K (.h an) s c)(S:¬pA o->K (.h ax) s c):aO a2 (d+1) 20 [y] (bJ K)<|aL s c:=by
 revert y;revert d s c K o;refine@je _<|e0 @(letI d:=_;letI s:=_;letI c:=_;letI K:=_;letI o:=_;(e3 ?_:eE _ _ _ _ _ d s c K o));intros;subst Q;haveI T:Z o-1+1=Z o\/o=[]:=by induction o with|nil=>exact a1 I|cons=>exact aK I
 haveI E:∀{t:O}{x:am},o[t]?=Y x->(aD o)[(bM (t:am))]?=Y (.a x):=λ{t x}W=>by unfold aD;exact J fL<|J W I
 refine cb I I I<|bV (J (bv ..)<|aH A as) ⟨as,J (bv ..)<|r9 A<|gj<|@k9 _⟩ (aK I) ⟨O,b2<|Z o-1,λi=>V.a<|1+i,λl=>yH s c o (Z l),?_,.mk _ λm b' C=>aA C<|my _,?_,λL F H G=>G.casesOn λz u=>S λX=>cF X λm x r N=>u m x (haveI:=dB N;J ec<|(aq [1,1,0,1] I:ap 3 0 [.e (.h .a) .b,.a (.h .f) .b] (.e .a .f)) this<|cy<|(aq [1,1] I:ap 2 0 [.e (.h .a) .b] (.g .k .b)) this) r N⟩
 .rintro l L F H _;exact aE T (λv=>mh<|J (bv ..)<|(c8 [1,0,1] [1,1] I I:ap 2 0 [.a (.h .a) .b] (.c .j<|.e .k .g)) v) λX=>J X λi=>I
 .refineλl i c' L F H v G=>G.casesOn λz u=>aM (lx v) λw P=>?_;subst w;have n:Z l+1<Z o:=(aq [1,1,1] I:ap 3 0 [.e .a .b,.a (.h .b) .f] (.e (.h .a) .f)) P<|cy<|(aq [1,1,1] I:ap 3 0 [.e .a .b,.g .b .f] (.g .k .f)) P<|gC _ _;haveI B:Z l<Z o:=(aq [1,1] I:ap 2 0 [.e (.h .a) .b] (.e .a .b)) n;refine J (show(1:am)+Z l=(Z l+1:O)from@Gw _)<|eP (eT _) ((aq [1,1,1] I:ap 2 0 [.g .a<|.c 4,.e (.h .b) .a] (.b (.p<|.h .b)<|.c<|2^62)) A n) _ (E<|cl n)<|eP (@Gy _) ((aq [1,1,1] I:ap 2 0 [.g .a<|.c 4,.e (.h .b) .a] (.b (.d (.p<|.h .b) .k)<|.c<|2^62)) A n) (.a o[(Z l)]) (J (show((Z l+1:O):am)-1=(Z l:O)from@r4 _)<|E<|cl B) ⟨λD=>R<|dr (Z l) (o[(Z l)]) (cl B)<|J (cl n)<|aW Y<|bU D,λD=>?_⟩
  .refine .mk _ λm x C M=>?_;rw[bI]at C;refine aE (f6 m (Z l)) (λq=>u m x q M) λq=>?_
   .obtain rfl:m=Z l:=tM (kU C) q;rw[cl B]at M;exact J (cl n) λa'=>cg D<|(bE a').trans<|aW _ (bE M).symm
theorem hA.a(D:hA p o)(h:¬pA o):eC o:=by
 haveI N:=λd A=>by
  refine aE (iP.mp D.e d (d+1) (tO A) A<|b7 _) (λg=>eN.mp g) λX=>aM X λk l=>?_
  .exfalso;exact aE (gd<|de k) (λq=>(aq [1,0,1] I:ap 0 2 [.b .a .b,.c .a .b] .i) l q) λq=>h<|dr d (o[d]) (cl _)<|J (cl A)<|aW Y<|(c8 [1,1] [1,0,1] I I:ap 0 2 [.c .a<|.r .b] (.c .b<|.r .a)) q
 unfold eC;rw[iP];refineλd j y s f=>have A:=cX f s;ci (N d A)<|aE (SR f) (λe=>?_) λe=>aE (iP.mp D.e (d+1) j A s e) (λg=>eb.mp<|jY g) λX=>aM X λg m=>eb.mp<|jm g
 .subst e;exact b4 _
end
end
mutual
def eu(l:U am):Prop:=eC l/\∀x∈l,bt 4 x
theorem eu.e(h:eu l):rO (·∈l):=λx M=>by
 refine⟨h.2 x M,λg=>?_⟩;obtain⟨i,y,a⟩:=kO M;obtain⟨j,s,n⟩:=kO g;have p:=iP.mp h.1;rcases tP i j with q|q|q
 .have:=p i j y s q;rw[a,n,du]at this;exact f5 _ this
 .subst q;rw[a]at n;exact z3 (h.2 x M).1 n
 .haveI:=p j i s y q;rw[a,n,du]at this;exact f5 _ this
theorem eu.f(h:eu l):l=ea (·∈l):=lz h.e h.1 λp=>oW
theorem eu.k(h:eu l):Z l<=4:=J h.f<|Sx ..
theorem eC.a(x:eC l)(c:f∈l)(d:b∈l)(e:ao f=ao b):f=b:=by
 obtain⟨i,y,rfl⟩:=kO c;obtain⟨j,s,rfl⟩:=kO d;have p:=iP.mp x;rcases tP i j with q|q|q
 .exact aA e<|bj<|p i j y s q
 .subst q;rfl
 .exact aA e.symm<|bj<|p j i s y q
end
section
variable{d n m:O}{s:aB}{c:aJ}{K:br}
mutual
def eH(l:U am):U<|am×V:=l.map λx=>(x,V.h an)
theorem Ky(l:U am):(eH l).map (λp=>V.a p.1)=aD l:=by unfold eH aD;exact J go I
theorem vH:od (eH l) x (.h an)=eH (if x∈l then l else l++[x]):=by
 unfold od;haveI e:(eH l).any (λp=>p.1==x)=a0 (x∈l):=by unfold eH;rw[List.any_map,nB,lF,ip];exact⟨λX=>ay X λy A i=>az (mL.mp i) A,λa=>aF x a<|mL.mpr I⟩
 refine J e ?_;by_cases a:x∈l
 .refine J (a9<|fC a)<|J (a9 a) ?_;unfold eH;exact J go (kQ λy b=>by refine(?_:(if y=x then(y,V.h an)else(y,V.h an))=_);split<;>rfl)
 .refine J (bf (by exact J (io a) as))<|J (bf a) ?_;unfold eH;exact J dY I
theorem BB{N:av}(h:N.i (.e k)=Y l):N.u (.e k)=Y l:=by refine(?_:(match N.i (.e k)with|Y l=>Y l|au=>(N.r<|.e k).map λd:U<|am×V=>d.map λp:am×V=>V.a p.1)=_);exact J h I
theorem BA(h:c.a k=Y (.b<|eH l)):(aL s c).u (.e k)=Y (aD l):=by
 haveI x:(aL s c).i (.e k)=au:=by refine(?_:(match c.a k with|Y (.e l)=>Y l|_=>au)=_);exact J h I
 haveI n:(aL s c).r (.e k)=Y (eH l):=by refine(?_:(match c.a k with|Y (.b l)=>Y l|_=>au)=_);exact J h I
 refine(?_:(match(aL s c).i (.e k)with|Y l=>Y l|au=>((aL s c).r<|.e k).map λd:U<|am×V=>d.map λp:am×V=>V.a p.1)=_);exact J x<|J n<|aW Y<|Ky l
theorem vB(h:c.a a=Y (.b<|eH l)):(aL s c).k (.e a)=Y (aD l):=BA h
theorem Br(d:c.a k=Y (.b<|eH l))(C:K (.h<|a0<|x∈l) s c):l7 fp (.a x) (.e k) K s c:=bO (aD l) (BA d) ⟨sv,λp=>⟨x,I⟩⟩<|J (j6.mpr s1) C
def M5(x:am):V:=.g [.a (ao x),.h<|a0<|0<x]
theorem Pv{P:br}(i:(aL s c).k y=Y (aD l))(A:Z l<=4)(h:∀o,o.Perm l->o.Pairwise (λa b=>ao a<=ao b)->P (.e c.d) s (c.b<|.e<|aD o)):∃l,(aL s c).k y=Y l/\dA l/\Z l<=4/\∃g,(∀x∈l,∀f,f (g x) s c->aO a2 (d+1) 60 [x] (bJ f) (aL s c))/\nf (l.map g)/\∀T,hc ax (l.map g) l T->P (.e c.d) s (c.b<|.e T):=by
 refine dQ (aD l) i (gw l) (by unfold aD;rw[bv];exact A)<|bO (λx=>M5<|kr x) (λx M f j=>?_) (a1 λn C=>ay (bL.mp C) λx p W=>az W<|fu _ _ I) λT z=>ch (qy (λp=>I) z) λo X W m=>J W<|h o X<|m.imp λ{a b}g=>haveI g:=g;aE g (λg=>eb.mp<|jY g) λg=>eb.mp<|jm g.1
 .refine ay (bL.mp M) λv g W=>?_;subst W;exact PS j
theorem Nw(c:(b0 l))(d:∀x∈l,-x∉l)(g:o.Perm l)(h:o.Pairwise (λa b=>ao a<=ao b)):eC o:=(T6 h<|g.nodup_iff.mpr c).imp_of_mem λ{a b}s f⟨A,i⟩=>lK A λe=>aE (gd e) (λq=>i q) λq=>d b (g.mem_iff.mp f)<|az q<|g.mem_iff.mp s
def aJ.i(c:aJ)(k:O)(x:b8):aJ:={c with a:=aw c.a k<|Y x}
theorem ky:(c.i k x).i k y=c.i k y:=by
 refine(?_:({c with a:=aw (aw c.a k _) k _}:aJ)={c with a:=aw c.a k _});congr 1;funext j;by_cases e:j=k
 .exact J e<|J aR<|J aR I
 .exact J (aG e)<|(aG e).symm▸(J (aG e) I)
theorem GJ:(c.b x).i c.d y=c.b y:=aW (λe:aJ=>{e with d:=c.d+1}) ky
inductive n0(s:aB)(c:aJ)(k:O)(p:U am):U V->aB->aJ->Prop|mk(q:U am)(z:V)(a:(b0 q))(M:∀x,x∈q↔x∈p)(d:Z q<=Z p):n0 s c k p [.e k,.e c.d,z] s<|c.b<|.b<|eH q
theorem n0.a(d:f=c.b (.b<|eH q))(g:(b0 q))(M:∀x,x∈q↔x∈p)(h:Z q<=Z p):n0 s c k p [.e k,.e c.d,z] s f:=J d<|.mk q z g M h
theorem P5(W:k<c.d)(p:c.a k=Y (.e<|aD l))(F:∀x∈l,-x∉l)(P:∀x∈l,bt 4 x)(r:Z l<=20)(v:∀f j,eC f->(∀x,x∈f↔x∈l)->aT c j->j.e=c.e->K (.g<|aD f) s j):aO a2 (d+2) 61 [.e k] (bJ K)<|aL s c:=by
 let n:U am->aJ:=λq=>c.b<|.b<|eH q;haveI H:∀q,aT c (n q):=λq=>aT.b _;haveI N:∀q x,(n q).i c.d (.b<|od (eH q) x<|.h an)=n (if x∈q then q else q++[x]):=λq x=>J vH GJ;refine cb I I I ?_;refine⟨am,l,V.a,n0 s c k,λy L Q j G=>G.casesOn λq z B B B=>fW<|((H q).a k W).trans p,.mk [] _ fm (λB=>oW)<|b4 _,?_,?_⟩
 .refineλy x h' L Q j u G=>G.casesOn λq z A M C=>have t:x∈l:=J u<|dN _<|bu ..;Br aR ⟨λm=>aA (bU m) λm=>F x t<|J u<|ii _<|(M _).mp m,λB=>?_⟩
  .refine na bk ((aq [1,1,1] I:ap 1 1 [.g .a<|.c 4,.d .a .g] (.b .a<|.c<|2^62)) (P x t).2 oY) (eH q) aR ?_ ?_
   .unfold eH;rw[bv];exact cX (aH C<|aH (f4<|u.symm▸(J bI<|J kP<|@zW _ _)) r) as
   .by_cases m:x∈q
    .exact n0.a ((N q x).trans<|aW n<|a9 m) A (λa'=>by rw[M,cK,b9];exact⟨aK,λw=>aE w id λw=>J w<|(M x).mp m⟩)<|J bI<|j0 C
    .exact n0.a ((N q x).trans<|aW n<|bf m) (fN.mpr<|aP A (dO.mpr ⟨fO,fm⟩) λb' D R E=>J (b9.mp E) λw=>m<|w▸D) (λa'=>by rw[cK,cK,M])<|J bI<|J bI<|fP C
 .refineλL Q j G=>G.casesOn λq z A M C=>?_;have S:∀x∈q,-x∉q:=λx t m=>F x ((M x).mp t)<|(M _).mp m;have T:Z q<=4:=by
   haveI c':b0 (q.map ao):=by rw[b0,iQ];exact Sh (λ{b' R}D E d' u=>aE (gd u) d' λw=>S R E<|az w D) A
   haveI:=hx c' λi' e'=>ay (bL.mp e') λx t f'=>az f'<|haveI:=P x<|(M x).mp t;Bq (jn.mpr this.1) this.2;rwa[bv]at this
  exact Pv (c:=n q) (vB aR) T λf X g'=>h2 (.o f) aR I I (gw f) (aH ((fK X)▸T) as)<|v f _ (Nw A S X g') (λx=>tC X.mem_iff<|M x) ((H q).i<|aT.b _) I
theorem T4{l:U am}:(l.filter b).map V.a=aD (l.filter b):=I
theorem eI:Z (aD l)=Z l:=bv ..
def ln(a b:U am)(u:am):U am:=a.filter (λx=>a0<|x≠u)++b.filter (λx=>a0<|x≠-u)
theorem KQ(s:eu h)(j:eu i)(C:eu k)(r:lY h i v k)(m:u=v\/u=-v)(A:u∈h)(n:-u∈i):(∀x,x∈ln h i u↔x∈k)/\Z (ln h i u)<=20/\(∀x∈ln h i u,bt 4 x)/\∀x∈ln h i u,-x∉ln h i u:=by
 have Q:∀x,x∈ln h i u↔x∈k:=λx=>by
  unfold ln;rw[cK,eq,eq,r.h,(by refine aE m (λX=>J X ?_) λX=>J X ?_<;>simp:v.natAbs=u.natAbs),ip,ip];constructor
  .rintro(⟨o,S⟩|⟨o,S⟩)
   .exact⟨aK o,λd=>S<|s.1.a o A d⟩
   .exact⟨a1 o,λd=>S<|j.1.a o n (by rw[du];exact d)⟩
  .rintro⟨o|o,S⟩
   .exact aK ⟨o,λd=>S<|J d I⟩
   .exact a1 ⟨o,λd=>S (by rw[d,du])⟩
 refine bV Q ?_ (λx M=>C.2 x<|(Q x).mp M) λx M p=>(C.e x<|(Q x).mp M).2<|(Q _).mp p;unfold ln;refine J bI ?_;haveI o:=gY (λx=>a0<|x≠u) h;haveI S:=gY (λx=>a0<|x≠-u) i;haveI:=s.k;haveI:=j.k;exact(aq [1,1,1,1,1] I:ap 4 0 [.g .a .b,.g .f .l,.g .b<|.c 4,.g .l<|.c 4] (.g (.e .a .f)<|.c 20)) (by assumption) (by assumption) (by assumption) (by assumption)
theorem PZ(R:x=.g (aD t))(S:y=.g (aD i))(T:z=.a v)(B:eu t)(D:eu i)(H:eu k)(E:lY t i v k)(h:∀w,aT c w->w.e=c.e->K (.g<|aD k) s w):aO a2 (d+3) 63 [x,y,z] (bJ K)<|aL s c:=by
 subst R S T;haveI M:Z t<=1000:=aH B.k as;haveI N:Z i<=1000:=aH D.k as;have P:∀u,(u=v\/u=-v)->u∈t->-u∈i->∀L,L[3]?=Y (.e c.d)->bs (aO a2<|d+2) (.a<|.r 61<|.b (.c 3) .d) (eg K) L s {(c.b<|.e<|aD<|t.filter λx=>a0<|x≠u).b (.e<|aD<|i.filter λx=>a0<|x≠-u)with a:=aw ((c.b<|.e<|aD<|t.filter λx=>a0<|x≠u).b<|.e<|aD<|i.filter λx=>a0<|x≠-u).a c.d<|Y<|.e<|aD (t.filter λx=>a0<|x≠u)++aD (i.filter λx=>a0<|x≠-u)}:=by
  refineλu f j l L a'=>bb ?_;intro j';refine en (KQ B D H E f j l) λb' c' d' e'=>gt a' ar ?_;refine P5 (er<|b7 _) (aR.trans ?_) e' d' c' λk' w X n f' g'=>J (X.ext H.1 λx=>(n x).trans<|b' x)<|h w (aT.i ⟨aH (cO _)<|cO _,λl' F=>(aG<|bj F).trans<|(aG<|bj<|er F).trans<|aG<|bj F⟩ f') g'
  .unfold ln aD;exact az dY I
 haveI C:∀(h':U am)(i':am->ba),dA (aD<|h'.filter i'):=λm m=>gw _;have Q:∀u,Z (aD<|t.filter λx=>a0<|x≠u)+Z (aD<|i.filter λx=>a0<|x≠-u)<=bi:=λu=>J eI<|J eI<|aH (kS (gY ..)<|gY ..)<|aH (kS B.k D.k) as;refine cb I I I<|dM ?_;intro m' n';refine p7 ⟨λX=>p7 ⟨λn=>bN<|dW<|oc t V.a V.a (λx=>a0<|x≠v) (λm h=>h) I jL M (λm m=>ar) (λx m A W=>W) (λx m A W=>W) ⟨bO (.o _) aR I bk,oc i V.a V.a (λx=>a0<|x≠-v) (λm h=>h) I jL N (λm m=>ar) (λx m A W=>W) (λx m A W=>W)<|sG (bj<|b7 _) _ _ ((aG<|bj<|b7 _).trans aR) aR (C _ _) (C _ _) (Q v)<|P v (aK I) (bU X) (bU n) _ I⟩,λn=>?_⟩,λX=>⟨λq=>aC q ar,λm=>?_⟩⟩
 .exfalso;exact aE E.b (λG=>aM G λm q=>cg n q) λG=>aM G λq m=>(B.e v<|bU X).2 q
 .haveI p:=hJ E.b λq=>cg X q.1;exact p7 ⟨λX=>p7 ⟨λn=>bN<|dW<|oc t V.a V.a (λx=>a0<|x≠-v) (λm h=>h) I jL M (λm m=>ar) (λx m A W=>W) (λx m A W=>W) ⟨bO (.o _) aR I bk,oc i V.a V.a (λx=>a0<|x≠v) (λm h=>h) I jL N (λm m=>ar) (λx m A W=>W) (λx m A W=>W)<|J (by rw[fl]:i.filter (λx=>decide<|x≠v)=i.filter (λx=>decide<|x≠- -v))<|sG (bj<|b7 _) _ _ ((aG<|bj<|b7 _).trans aR) aR (C _ _) (C _ _) (Q<|-v)<|P (-v) (a1 I) p.1 (by rw[fl];exact p.2) _ I⟩,λn=>aA p.2<|cg n⟩,λX=>aA p.1<|cg X⟩
theorem ti(f:y=.a o)(A:Z s.e.l<=1000)(z:cL s.e.l o l)(h:K (.g<|aD l) s c):aO a2 (d+1) 65 [.b 2,y] (bJ K)<|aL s c:=by
 refine J f<|bb ?_;intro k;refine kK z λi p e M=>?_;induction M;haveI j:d5 o (Z s.e.l):=by haveI:=eG (dB e) A;rwa[eU i]at this
 exact cb I I I<|aP I j (J ih<|J e<|eP as as _ I h:nc (bS s.e.l (bM o) dw.c).q 1 _ s c)
theorem xi{j:O}(h:l[j]?=Y x):(aD l)[j]?=Y (.a x):=by unfold aD;exact J fL<|J h I
inductive vh(s:aB)(c:aJ)(F:V->U V)(P:Prop):U V->aB->aJ->Prop|mk(z:V)(h:P):vh s c F P (F z) s c
theorem PO{l:U am}(m:eu l)(v:K (.h an) s c):aO a2 (d+1) 62 [.g<|aD l] (bJ K)<|aL s c:=by
 revert d s c K l;refine@je _<|e0 @(letI d:=_;letI s:=_;letI c:=_;letI K:=_;letI l:=_;(e3 ?_:eE _ _ _ _ _ d s c K l));intros;refine cb I I I<|dM ?_;intro A B;refine bV (eI▸aH m.k as) ⟨by decide,J eI<|r9 m.k<|gj<|@k9 _⟩ (aK I) ⟨O,b2 (Z l),λt=>V.a<|0+t,λn=>vh s c (λz=>[.g<|aD l,z]) im,?_,.mk _ bk,?_,λL X u G=>G.casesOn λz n=>v⟩
 .rintro p L X u _;exact mh (by rw[eI,nE])
 .refineλp t r L X u w G=>G.casesOn λz n=>?_;obtain⟨rfl,y⟩:=lx w;refine(?_:bs _ _ _ [.g<|aD l,.a<|0+(Z p:O)] _ _);rw[nE];refine eP (eT _) (r5 m.k y) _ (xi<|cl y) ⟨λo=>aA (bU o) (m.2 _<|kN y).1,λn=>⟨λo=>?_,λn=>⟨λq=>aC q ar,λn=>.mk _ bk⟩⟩⟩;obtain⟨q,M⟩:∃q,Z p=q+1:=⟨Z p-1,u5<|cy<|pF (bU o:(0:am)<Z p)⟩;have C:q<Z l:=(aq [1,1,0,1] I:ap 3 0 [.e .a .b,.a .a<|.h .f] (.e .f .b)) y M;exact eP ((aq [1,0,1] I:ap 2 0 [.a .a<|.h .b] (.d .i<|.d .g .k)) M) ((aq [1,1] I:ap 1 0 [.b .g<|.c<|2^62] (.b (.d .g .k)<|.c<|2^62))<|r5 m.k y) (.a l[q]) (J (by exact(c8 [1,1] [1,0,1] I I:ap 2 0 [.a .a<|.h .b] (.c (.d .g .k) .j)) M:(p.length:Int)-1=(q:Nat))<|xi<|cl C) ⟨eT _,r5 m.k y,_,xi<|cl y,λx=>be (yV (bU x:((ao (l[(Z p)]):O):am)<=ao (l[q]))<|iP.mp m.1 q (Z p) C y<|(aq [1,0,1] I:ap 2 0 [.a .a<|.h .b] (.e .b .a)) M),λn=>.mk _ bk⟩
def aB.x(s:aB)(p:dw)(a:am):aB:={s with e:={s.e with l:=s.e.l++[p],b:=a}}
theorem HB(P:L[6]?=Y (.a o))(d:L[5]?=Y (.a q))(b:0<=o)(A:o<q)(e:K (.h an) s c):bh C (.R pa g0 (.a 0) (.c 6)<|.c 5) L K s c:=by
 have n:c5 L 6=Y (.a o):=by unfold c5;exact J P I
 refine cf n (J (fC b)<|cf (by unfold c5;exact J d I) ?_:ix (a0<|0<=o) (bA C (.c 5) L (λz N=>iz g0 (.a o) z (bJ K) N)<|aL s c) (bJ K (.h ax)<|aL s c));exact(J (fC A)<|dr s c I e:bJ K (.h<|a0<|o<q) (aL s c))
theorem Dc{r:iW}{l X:U am}{C:V}(t:V.p r∈[V.p "input",.p "define",.p "ite_term",.p "three",.p "bits",.p "congruence",.p "farkas",.p "branch",.p "divide",.p "cut",.p "resolve"])(x:eu l)(A:Z s.e.l<=1000)(u:∀f∈X,0<=f/\f<Z s.e.l)(m:C≠.d)(h:∀e j,aT c j->fb c j->K (.a (Z s.e.l)) (s.x ⟨r,l,X,C⟩ e) j):aO a2 (d+2) 66 [.b 2,.p r,.g<|aD l,.g<|aD X,C] (bJ K)<|aL s c:=by
 revert d s c K r l X C;refine@fk _<|e0 @(letI d:=_;letI s:=_;letI c:=_;letI K:=_;letI r:=_;letI l:=_;letI X:=_;letI C:=_;(e3 ?_:eE _ _ d s c K r l X C));intros;refine cb I I (wl λv P=>?_)<|aP I (aH A as) ?_
 .rcases cu.mp P with rfl|P
  .exact ar
  rcases cu.mp P with rfl|P
  .exact ar
  rcases cu.mp P with rfl|P
  .exact ar
  rcases cu.mp P with rfl|P
  .exact ar
  exact J (b9.mp P) m
 refine bO _ I ⟨λz E=>bD (bL.mp<|show z∈["input","define","ite_term","three","bits","congruence","farkas","branch","divide","cut","resolve"].map V.p from E) λH e=>az e.2<|.p _ _,λq=>aC q ar⟩ ⟨λw=>aA t<|bU w,λk=>PO x ⟨λq=>aC q ar,λk=>?_⟩⟩;refine⟨am,X,V.a,λk=>vh s c (λz=>[.b 2,.p r,.g<|aD l,.g<|aD X,C,.a (Z s.e.l),z]) im,?_,.mk _ bk,?_,?_⟩
 .rintro y n B j _;exact jL
 .refineλy f q n B j e G=>G.casesOn λz k=>?_;obtain⟨D,F⟩:=u f (J e<|dN _<|bu ..);exact HB (L:=[.b 2,.p r,.g<|aD l,.g<|aD X,C,.a (Z s.e.l),.a f]) I I D F ⟨λq=>aC q ar,λk=>.mk _ bk⟩
 .refineλn M N G=>G.casesOn λz k=>⟨⟨I,bk⟩,gt I m<|jK I (cX A as) bk (.i<|s.e.l++[⟨r,l,X,C⟩])<|h2 (s.x ⟨r,l,X,C⟩ s.e.b) I I (?_:(s.e.l++[_]).map dw.q=s.e.l.map dw.q++_) I (J eI<|aH x.k as) ⟨λk=>⟨λk=>eP I ar (s.x ⟨r,l,X,C⟩ (Z s.e.l)) I<|h _ _ ⟨b4 _,λk k=>I⟩ λQ=>lb (o:=2) (a:=33) as,λk=>h _ _ aT.j λk=>I⟩,λk=>⟨λq=>aC q ar,λk=>h _ _ aT.j λk=>I⟩⟩⟩;refine J dY ?_;rfl
def ct(x:U (am×am)):U V:=x.map λp=>V.g [.a p.1,.a p.2]
theorem AL(A:hR C)(m:L[2]?=Y (.e k))(z:c.a k=Y (.e<|ct b))(y:e6 i (Z L)=an)(n:e6 j (Z L)=an)(o:Z b<=1000)(q:∀p∈b,c5 ((L.set i<|.a p.1).set j<|.a p.2) g=Y (f p))(t:K (.e c.d) s (c.b<|.e<|b.map f)):bh C (.T i j (.c 2)<|.c g) L K s c:=by
 refine cf (by unfold c5;exact J m I) ⟨Z b+1,sV b (λp=>V.g [.a p.1,.a p.2]) (λp d X h=>X=s/\h=c/\d=p.map f/\Z p<=Z b) _ ?_ ?_ ?_ b [] [] s c I<|bV I I I<|f7 _⟩
 .rintro p d X h⟨rfl,rfl,_⟩;exact fW z
 .rintro p x r d X h l⟨rfl,rfl,rfl,u⟩P v;refine fh (l5 y) (l5 n) ar ar ?_<|cf (q x<|l▸dN _ (bu ..))<|v _ _ _<|bV I I (J dY I)<|l.symm▸(J bI<|J bI<|iR (fP<|f7 _) _)
  .rw[bv];exact cX (aH u o) as
 .rintro d X h⟨rfl,rfl,rfl,_⟩;exact dr _ _ I t
theorem lY.p(s:eu f)(c:eu g)(r:lY f g v k):eu k:=⟨r.a,λx M=>aE ((r.h x).mp M).1 (s.2 x)<|c.2 x⟩
theorem c4.a{c d:U (am×am)}:∀{b:U am},c4 i b (c++d) j->∃k,c4 i b c k/\c4 i k d j:=by induction c with|nil=>exactλ{b}h=>aF b I h|cons x r e=>exactλh=>dd h λm k A f Q=>ay (e Q) λq X g=>aF q (fv m k A f X) g
theorem c4.l:∀{h:U am},c4 j h i k->c4 j h i b->k=b:=by induction i with|nil=>exactλA c=>bx A.symm c|cons x r d=>exactλA c=>dd A λp p e T f=>dd c λp p G w m=>d f<|J (T.a.ext w.a λx=>(T.h x).trans<|J (e.l G) (w.h x).symm) m
def rT(h:U dw):Prop:=∀o l,cL h o l->eu l
theorem c4.p{a:U dw}(P:rT a):∀{i:U (am×am)}{b x:U am},c4 a b i x->eu b->eu x|[],_,_,h,g=>az h g|(_,_)::_,_,_,⟨_,_,A,c,Q⟩,g=>Q.p P<|c.p g<|P _ _ A
theorem cL.e(h:cL a o g):0<=o/\o<Z a:=kK h λq p A b=>⟨q,zP (dB A)<|Ex _⟩
def le(f:am)(x:U (am×am))(l:U am):dw:=⟨"resolve",l,f::x.map iT,.g<|aD<|x.map S6⟩
inductive ys(s:aB)(c:aJ)(f:am)(k:O)(l:U am)(p:U (am×am)):U V->aB->aJ->Prop|mk{h:aJ}(G:U am)(y A:V)(i:aT c h)(j:h.e=c.e)(m:c4 s.e.l l p G):ys s c f k l p [.b 2,.a f,.e k,.g<|aD G,y,A,.d,.d,.d,.d,.d] s h
theorem PE{f:am}{m:U (am×am)}{l y:U am}{k:O}{x:V}(W:x=.a f)(P:rT s.e.l)(B:Z s.e.l<=1000)(T:cL s.e.l f l)(N:c4 s.e.l l m y)(h:m≠[])(o:∀q∈m,0<=q.2/\q.2<Z s.e.l)(v:Z m<=100)(C:k<c.d)(Q:c.a k=Y (.e<|ct m))(r:∀t j,aT c j->fb c j->K (.a (Z s.e.l)) (s.x (le f m y) t) j):aO a2 (d+4) 67 [.b 2,x,.e k] (bJ K)<|aL s c:=by
 revert y x;revert d s c K f m l k;refine@fk _<|e0 @(letI d:=_;letI s:=_;letI c:=_;letI K:=_;letI f:=_;letI m:=_;letI l:=_;letI k:=_;(e3 ?_:eE _ _ d s c K f m l k));intros;subst W;haveI R:∀q:U<|am×am,Z (ct q)=Z q:=λn=>bv ..;refine cb I I I<|dM ?_;intro m' n';refine ti I B T ?_;refine⟨am×am,m,λp=>V.g [.a p.1,.a p.2],ys s c f k l,λp L S j G=>G.casesOn λn n n t n n=>fW<|(t.a k C).trans Q,.mk l _ _ aT.j I I,?_,?_⟩
 .refineλp q o' L S j t G=>G.casesOn λa' b' c' w D u=>bb ?_;intro p';refine ay (c4.a<|az t N) λq' X E=>?_;obtain rfl:=u.l X;exact dd E λd' r' A F s'=>bV I I I<|ti I B A<|PZ I I I (u.p P<|P _ _ T) (P _ _ A) (F.p (u.p P<|P _ _ T)<|P _ _ A) F λe' f' g'=>⟨λq=>aC q ar,λn=>.mk d' _ _ (w.i f') (bx g' D)<|u.u A F⟩
 .refineλL S j G=>G.casesOn λ{j}a' b' c' w D u=>?_;obtain rfl:=u.l N;have H:=(w.a k C).trans Q;haveI h':¬(Z (ct m):am)=0:=by rw[R];exactλt=>h<|iN.mp<|de t
  have z:∀f:am×am->am,m.map (λp=>V.a<|f p)=aD (m.map f):=λf=>by unfold aD;refine az go ?_;rfl
  refine h1 (.c<|ct m) H I (J (R m)<|aH v as:Z (ct m)<=bi) (λi'=>aA (bU i') h') λn=>bN<|dW<|sm<|oN<|d7<|eB I ar<|MT<|tr<|AL (jz a2 _) I H I I (aH v as) (λp n=>I) ?_;refine h1 (.c<|m.map λp:am×am=>V.a p.2) (aR:aw j.a j.d _ j.d=_) I I ?_<|aP ?_ ?_ ?_
  .rw[z];exact gw _
  .refine(?_:Z (m.map _)<=_);rw[bv];exact aH v as
  .refine(?_:1+Z (m.map λp=>V.a p.2)<=_);rw[bv];exact aH (iR v _) as
  .refine(?_:bs _ _ _ [_,_,_,_,_,_,.g<|[V.a f]++m.map λp=>V.a p.2,_,_,_,_] _ _);rw[z];let e':=j.b<|.e<|aD<|m.map λp=>p.2;refine mq<|h9 I<|d7<|QP<|d7<|eB I ar<|d7<|eB I ar<|d7<|tr<|AL (jz a2 _) I (((aT.b _).a k<|ci C w.d).trans H) I I (aH v as) (λp n=>I) ?_;refine h2 (.c<|m.map λp:am×am=>V.a p.1) aR I I ?_ ?_ ?_
   .rw[z];exact gw _
   .refine(?_:Z (m.map _)<=_);rw[bv];exact aH v as
   .refine ?_;rw[show[V.a f]++aD (m.map λp=>p.2)=aD (f::m.map iT)from I,z];refine Dc (by simp) (u.p P<|P _ _ T) B (λt' M=>?_) ar λt j' X E=>r t j' ((w.i<|(aT.b _).i<|aT.b _).i X) λk'=>(E k').trans<|uh D _;rcases cu.mp M with rfl|M
    .exact T.e
    .exact ay (bL.mp M) λq X l'=>az l'<|o q X
theorem tl(M:x=.g (aD l'))(B:y=.a f)(P:rT s.e.l)(A:Z s.e.l<=900)(T:cL s.e.l f l)(C:c4 s.e.l l o l')(D:∀q∈o,0<=q.2/\q.2<Z s.e.l)(t:Z o<=100)(E:k<c.d)(z:c.a k=Y (.e<|ct o))(F:o=[]->K (.a f) s c)(h:o≠[]->∀p r,aT c r->fb c r->K (.a (Z s.e.l)) (s.x (le f o l') p) r):aO a2 (d+5) 43 [.b 0,x,y,.e k] (bJ K)<|aL s c:=by
 subst M B;have w:Z (ct o)=0↔o=[]:=by unfold ct;rw[bv];exact iN
 refine cb I I I<|dM ?_;intro L N;refine⟨λq=>aC q ar,λG=>h1 (.c<|ct o) z I I (by unfold ct;rw[bv];exact aH t as:(ct o).length<=bi) ⟨λm=>F<|w.mp<|bU m,λm=>?_⟩⟩;have u:=λp=>cg m<|w.mpr p;refine PE I P (aH A as) T C u D t E z λp r X H=>?_;refine ti I ?_ (show cL (s.x (le f o l') p).e.l (Z s.e.l) l' from cL.d) ?_
 .refine(?_:Z (s.e.l++[_])<=1000);exact J bI<|aH (lJ A _) (by decide:900+1<=1000)
 .refine aP (.j (λv n=>?_) λv n=>?_) (λm=>aA I<|bU m) λG=>h u p r X H
  .obtain⟨i,_,rfl⟩:=bL.mp n;exact⟨i,I⟩
  .obtain⟨i,_,rfl⟩:=bL.mp n;exact⟨i,I⟩
end
end
mutual
def hb(n m:O)(p:dD)(stp:O->am)(o:am):Prop:=(∃c:O,c<m/\stp c=o)\/∃v:O,v<=n/\p.q v=Y o
structure pz(G:U (U am))(h:U dw)(k:O)(q:dw):Prop where
 e:∀o∈q.i,0<=o/\o<k
 b:(q.a="input"/\q.i=[]/\∃i:O,q.d=.a i/\G[i]?=Y q.b)\/(q.a="resolve"/\∀w,(∀o∈q.i,∀l,cL h o l->fE w l)->fE w q.b)
structure el(G:U (U am))(n m:O)(p:dD)(stp:O->am):Prop where
 b:rT p.l
 a:∀(k:O)(q:dw),p.l[k]?=Y q->pz G p.l k q
 i:∀(k:O)(q:dw),p.l[k]?=Y q->∀o∈q.i,hb n m p stp o
def ir(m:O)(a:db)(stp:O->am)(h:U dw):Prop:=∀c:O,c<m->∃l,cL h (stp c) l/\∀x,x∈l↔x∈a c
@[reducible]def FP(t:b3)(p:dD)(r:O):Prop:=∀(i:O)(x:am),t.a[i]?=Y x->(i<r->∃o,p.q (ao x)=Y o/\cL p.l o [x])/\(r<=i->p.q (ao x)=au)
structure fH(n:O)(t:b3)(p:dD):Prop where
 f:∃r:O,p.a=r/\r<=Z t.a/\(∀x∈t.f,(r:am)<=x)/\FP t p r
 w:∀v:O,v<=n->t.b v=0->p.q v=au
structure ee(p E:dD):Prop where
 l:∃e,E.l=p.l++e
 q:∀(v:O)(o:am),p.q v=Y o->E.q v=Y o
 k:(Z E.l:am)-Z p.l<=E.a-p.a
theorem ee.j:ee c c:=⟨⟨[],(dI _).symm⟩,λa a h=>h,@GA _ _⟩
theorem ee.i(h:ee r w)(k:ee w c):ee r c:=bH h.l λe l=>bH k.l λm F=>⟨⟨e++m,by rw[F,l,iL]⟩,λv o q=>k.q v o<|h.q v o q,by haveI:=h.k;haveI:=k.k;exact(aq [1,1,1] I:ap 3 3 [.d (.d .g .j)<|.d .a .b,.d (.d .s .g)<|.d .f .a] (.d (.d .s .j)<|.d .f .b)) (by assumption) (by assumption)⟩
theorem ee.b(h:ee c E)(q:cL c.l o d):cL E.l o d:=bH h.l λe a=>J a q.f
end
section
variable{G:U (U am)}{n m:O}{p:dD}{stp:O->am}{t:b3}{a:db}
mutual
theorem ir.f(h:ir m a stp p.l)(x:ee p E):ir m a stp E.l:=λc d=>ay (h c d) λl e b=>aF l (x.b e) b
theorem ir.q(h:ir m a stp p.l)(P:gq m a d):ir m d stp p.l:=λc e=>ay (h c e) λl f b=>aF l f λx=>(b x).trans (P c e).mem_iff.symm
structure fc(h:U dw)(C:am->Prop)(x:U (am×am)):Prop where
 g:∀q∈x,q.1≠0
 e:∀q∈x,0<=q.2/\q.2<Z h
 c:∀q∈x,C q.2
theorem fc.d:fc b C []:=⟨λp h=>aC h ar,λp h=>aC h ar,λp h=>aC h ar⟩
theorem fc.u(h:fc i C x)(c:v≠0)(z:cL i o l)(d:C o):fc i C<|x++[(v,o)]:=haveI D:∀{P:am×am->Prop},(∀q∈x,P q)->P (v,o)->∀q∈x++[(v,o)],P q:=λa b q M=>aE (cK.mp M) (a q) λe=>J (b9.mp e) b;⟨D h.g c,D h.e z.e,D h.c d⟩
theorem fc.q{x c:U (am×am)}(h:fc b C x)(g:fc b C c):fc b C<|x++c:=⟨λa M=>aE (cK.mp M) (h.g a)<|g.g a,λa M=>aE (cK.mp M) (h.e a)<|g.e a,λa M=>aE (cK.mp M) (h.c a)<|g.c a⟩
theorem fc.f(h:fc i C x)(c:∀o,C o->k o):fc (i++j) k x:=⟨h.g,λq M=>⟨(h.e q M).1,J bI<|(aq [1,1] I:ap 2 1 [.b .a .g] (.b .a<|.p<|.e .a .b)) (h.e q M).2⟩,λq M=>c _<|h.c q M⟩
theorem cL.b(h:cL (i++[r]) o k):cL i o k\/(o=Z i/\k=r.b):=by refine bb ?_;intro p;exact kK h λd q A e=>aE (km A) (λf=>aK<|md d q f e) λX=>aM X λm n=>a1 ⟨(c8 [1,1,0,0,1] [1,0,1,1] I I:ap 2 1 [.a .a .b,.c .g .a] (.c .a .j)) m<|eU<|l2 d,az e<|az n I⟩
theorem el.c(x:∀j o,p.q j=Y o->E.q j=Y o)(T:m<=l)(A:∀g,g<m->q g=stp g)(h:hb n m p stp o):hb n l E q o:=aE h (λX=>ay X λg a b=>aK<|aF g (ci a T)<|(A g a).trans b) λX=>ay X λj a b=>a1<|aF j a<|x j o b
theorem el.e(P:el G n m p stp)(M:eu q.b)(A:pz G p.l (Z p.l) q)(d:∀o∈q.i,hb n m p stp o)(f:am):el G n m {p with l:=p.l++[q],b:=f} stp where
 b o c h:=by
  rcases cL.b h with h|⟨_,rfl⟩
  .exact P.b o c h
  .exact M
 a k r C:=by
  have j:∀{k:O}{r:dw},pz G p.l k r->(∀o∈r.i,0<=o/\o<Z p.l)->pz G (p.l++[q]) k r:=λ{k r}S x=>⟨S.e,S.b.imp id λX=>aM X λs t=>⟨s,λw h=>t w λo z c u=>h o z c u.f⟩⟩;rcases km C with g|⟨rfl,rfl⟩
  .have S:=P.a k r g;exact j S λo z=>⟨(S.e o z).1,R9 (S.e o z).2<|eN.mpr<|dB g⟩
  .exact j A A.e
 i k r C:=by
  refine bb ?_;intro v;rcases km C with g|⟨rfl,rfl⟩
  .exact P.i k r g
  .exact d
theorem el.d(P:el G n m p stp)(T:cL p.l j g)(i:c4 p.l g x r)(c:fc p.l (hb n m p stp) x)(s:hb n m p stp j)(e:am):el G n m {p with l:=p.l++[le j x r],b:=e} stp:=by
 refine P.e (i.p P.b<|P.b _ _ T) ⟨λo z=>?_,a1 ⟨I,λw h=>i.e (λo g h=>(P.b o g h).1) (P.b _ _ T).1 c.g (h j (bu ..) g T) λq M k C=>h q.2 (cm _<|fM M) k C⟩⟩ (λo z=>?_) e
 .rcases(λo z=>(cu.mp z).imp id λh=>bL.mp h) o z with rfl|⟨q,a,rfl⟩
  .exact T.e
  .exact c.e q a
 .rcases(λo z=>(cu.mp z).imp id λh=>bL.mp h) o z with rfl|⟨q,a,rfl⟩
  .exact s
  .exact c.c q a
structure dp(G:U (U am))(n m:O)(t:b3)(a:db)(stp:O->am)(p:dD):Prop where
 b:fH n t p
 d:ir m a stp p.l
 c:el G n m p stp
theorem NP(T:bG n t)(E:fH n t p)(P:v<=n)(h:p.q v=Y o):∃(i:O)(x:am),t.a[i]?=Y x/\ao x=v/\cL p.l o [x]:=by
 refine dC E.f λr A c Q b=>?_;by_cases s:t.b v=0
 .rw[E.w v P s]at h;exact aC h ar
 .refine cF (T.c v P s) λi x X B=>?_;subst B;rcases f6 i r with g|g
  .refine ay ((b i x X).1 g) λy a S=>?_;replace a:=h▸a;exact J (bE a)<|fv i x X I S
  .rw[(b i x X).2 g]at h;exact aC h ar
end
end
section
variable{d n m:O}{s:aB}{c:aJ}{K:br}{G:U (U am)}{A:U am}
mutual
theorem lv(h:c.a k=Y x):c.i k x=c:=by
 refine(?_:({c with a:=aw c.a k _}:aJ)=c);haveI:aw c.a k (Y x)=c.a:=jy λj=>by
  by_cases e:j=k
  .exact J e<|J aR<|az h I
  .exact J (aG e) I
 exact J this I
theorem ht:(c.i k x).a k=Y x:=aR
theorem qJ:ct (x++[(v,o)])=ct x++[V.g [.a v,.a o]]:=dY
theorem qu:gy s (c.i k<|.e l) (.e k) λp=>im:=bO (.c l) ht I bk
theorem dp.g(B:dp G n m t z u p)(T:bG n t){S:am}(P:el G n m {p with l:=p.l++j,b:=S} u)(F:Z j<=1){r:O}(H:p.a=r)(M:t.a[r]?=Y x)(L:∀y∈t.f,r<y)(N:cL (p.l++j) w [x]):dp G n m t z u ⟨p.l++j,S,aw p.q (ao x)<|Y w,p.a+1⟩/\ee p ⟨p.l++j,S,aw p.q (ao x)<|Y w,p.a+1⟩:=by
 refine dC B.b.f λQ A c' d' C=>?_;obtain rfl:r=Q:=by replace A:=H▸A;exact de A
 have d:∀(v:O)(o:am),p.q v=Y o->aw p.q (ao x) (Y w) v=Y o:=λv o f=>J (aG λj=>by subst j;replace f:=((C r x M).2<|b4 _)▸f;exact aC f ar) f;refine⟨⟨⟨dQ (r+1) (J H I) (dB M) (λy c=>L y c) λD y c=>⟨λs=>?_,λs=>(J (aG λE=>(aq [1,1] I:ap 2 0 [.g (.h .a) .b,.a .b .a] .i) s (T.m c M E).1)<|(C D y c).2<|SS s:aw p.q (ao x) (Y w) (ao y)=au)⟩,λv R K=>(J (aG λE:v=ao x=>T.h M<|az E K)<|B.b.w v R K:aw p.q (ao x) (Y w) v=au)⟩,B.d.f ⟨⟨j,I⟩,d,bI.symm▸(z8 F)⟩,P.b,P.a,λk q W o X=>el.c d (b4 _) (λe e=>I)<|P.i k q W o X⟩,⟨⟨j,I⟩,d,bI.symm▸(z8 F)⟩⟩
 .refine(?_:∃o,aw p.q (ao x) (Y w) (ao y)=Y o/\cL (p.l++j) o [y]);by_cases j:D=r
  .cases j;replace c:=M▸c;exact az (bE c)<|aF w aR N
  .exact ay ((C D y c).1<|lK (kU s) j) λo a' b'=>aF o (d _ _ a') b'.f
def aB.w(s:aB)(p:dD):aB:={s with e:=p}
def px(G q:U am)(x:am)(u:O):Prop:=∃y∈G,y≠x/\ao y=u/\y∉q
def Rm:bo:=.d (.b (.a 2)<|.i (.f (.c 0) 0 8)<|.f (.c 0) 0 20)<|.d (.b (.a 3)<|.i (.f (.c 0) 0 3)<|.n<|.c 2)<|.d (.b (.a 4)<|.e .d)<|.d (.g (.a 5) (.r 19<|.b (.i (.f (.c 0) 0 12)<|.c 3) .d)<|.c (.l dj (.c 5)<|.c 2) (.f<|.o (.c 4)<|.g<|.b (.n<|.c 5)<|.b (.i (.f (.c 0) 0 19)<|.n<|.c 5) .d) .e)<|.d (.b (.i (.f (.c 0) 0 19)<|.n<|.c 2)<|.j (.c 0) 0 43<|.b (.g<|.b (.c 2) .d)<|.b (.i (.f (.c 0) 0 13)<|.c 3)<|.b (.c 4) .d)<|.b (.f (.c 0) 0 20)<|.m cY (.f (.c 0) 0 20)<|.a 1
inductive pB(n m:O)(s:aB)(r:aJ)(f:U am)(d v D:O)(x:am)(q:U am):U V->aB->aJ->Prop|mk(c:U (am×am))(g:V)(h:c4 s.e.l f c (ea<|cW n s.b (λz=>z=x)<|px (s.a D) q x))(C:fc s.e.l (hb n m s.e s.g) c)(i:Z c<=Z q):pB n m s r f d v D x q [.b 0,.a v,.a x,.a D,.e d,g] s<|r.i d<|.e<|ct c
theorem pB.a(d:V)(c:h=r.i f (.e<|ct D))(j:c4 s.e.l i D (ea<|cW n s.b (λz=>z=x)<|px (s.a g) q x))(C:fc s.e.l (hb n m s.e s.g) D)(k:Z D<=Z q):pB n m s r i f v g x q [.b 0,.a v,.a x,.a g,.e f,d] s h:=J c<|.mk D d j C k
theorem P7{S r:O}{x:am}{g' h' i' T:V}{j':eX}(F:cD n m s.d)(a':bG n s.b)(O':cT n A s.b m s.a)(b':dp G n m s.b s.a s.g s.e)(ad':Z s.e.l<=800)(q':s.e.a=r)(r':s.b.a[r]?=Y x)(P':∀y∈s.b.f,r<y)(h:∀E k g' h' i' T,ee s.e E->dp G n m s.b s.a s.g E->E.a=r+1->aT c k->fb c k->j' .b [.b 0,.a S,g',h',i',T] (s.w E) k):bs (aO a2<|d+6) Rm j' [.b 0,.a S,g',h',i',T] s c:=by
 revert d n m s c G A S r x g' h' i' T j';refine@wv _<|h0 @(letI d:=_;letI n:=_;letI m:=_;letI s:=_;letI c:=_;letI G:=_;letI A:=_;letI S:=_;letI r:=_;letI x:=_;letI g':=_;letI h':=_;letI i':=_;letI T:=_;letI j':=_;(ic ?_:he _ _ _ _ _ _ _ _ _ _ _ d n m s c G A S r x g' h' i' T j'));intros;refine dC b'.b.f λC' D' ax' ay' ae'=>?_;obtain rfl:r=C':=by replace D':=q'▸D';exact de D'
 refine b6 (a'.s _ _ r') λk' Q' R'=>?_;obtain⟨t,af',l',s'⟩:∃c:O,s.b.j (ao x)=c/\c<m/\hD s.b (s.a c) (ao x):=by
  refine aE (O'.f _ k'.2<|a'.h r') (λt'=>aM t' λu' C=>?_) λC=>C
  .haveI:=P' _ C;rw[R']at this;exact be (pH this)
 refine aM (O'.d t l') λA' E'=>?_;have S':x∈s.a t:=by
  refine ch s'.1 λy X H q=>?_;rcases gd H with rfl|rfl
  .exact X
  .rw[fI k'.1,Q']at q;exact aA q as
 have v':∀y∈s.a t,y≠x->ao y≠ao x:=λy w' K p=>by
  rcases gd p with rfl|rfl
  .exact K I
  .haveI:=ls E' w' S' (by rw[du]);haveI:=k'.1;exact u6 (by assumption) (by assumption)
 refine ay (b'.d t l') λF' B' ag'=>?_;haveI m':t<s.d.a:=J (aW dn.a F.d) l';have ah':=λy w' K=>by refine aM (s'.2 y w'<|v' y w' K) λai' aj'=>bH (a'.y (A' y w') ai') λu T'=>?_;haveI U':=(a'.s u _ T').2.2;rw[du]at U';haveI:=(ae' u _ T').1<|(aq [1,1,0,1,0,1] I:ap 2 2 [.c .a .g,.b .b .a,.c .b .j] (.e .b .a)) R' aj' U';rw[du]at this;exact this
 have G':∀{V':O->Prop},(∀v,V' v->v≠ao x)->∀z,z=x->bt n z/\a4 s.b.b z=1/\¬V' (ao z):=λak' z p=>J p<|aP k' Q' λC=>ak' _ C I;have H':∀w v,px (s.a t) w x v->v≠ao x:=λw v t' p=>dC t' λy X H q u'=>v' y X H<|bx q p;have al':F'=ea (cW n s.b (λz=>z=x)<|px (s.a t) [] x):=by
  refine lz (cW.e F.i<|G'<|H' _) (b'.c.b _ _ B').1 λz=>?_;rw[ag'];constructor
  .intro m';by_cases p:z=x
   .exact aK p
   .exact a1<|eP (A' z m') (s'.2 z m'<|v' z m' p).1 z m'<|aP p I fO
  .rintro(rfl|⟨X,H,y,q,am',an',_⟩)
   .exact S'
   .rcases gd an' with rfl|rfl
    .exact q
    .haveI:=(s'.2 _ q<|v' _ q am').1;rw[fI X.1,H]at this;exact aA this as
 refine aP I (J q'<|eG (dB r')<|mV a'.k F.i) ((q'.symm▸(fV r'):bS s.b.a (bM s.e.a) 0=x).symm▸(aP I (F.j k'.2) (af'.symm▸(let M:=c.d;aP I (F.a l')<|oI (l:=s.a t) (.a I m' I) ((aq [1,1,1] I:ap 2 0 [.g .a<|.c 4,.g .b .a] (.g .b<|.c 4)) F.i<|hk (n:=n) A' E':Z (s.a t)<=4) λI' c' J' W' n' X=>?_):lA 3 (.a<|s.b.j x.natAbs) _ _)):lA 2 (.a<|s.b.a.getD s.e.a.toNat 0) _ _);haveI X':∀B,fb c (c'.i M<|.e B):=λB u=>uh X _;refine⟨am,I',V.a,pB n m s c' F' M S t x,?_,.a (D:=[]) T (lv<|(n'.a _<|b7 _).trans aR).symm al' .d<|b4 _,?_,?_⟩
 .rintro w Y' Z' k _;exact jL
 .refineλw y C' Y' Z' k p K'=>K'.casesOn λD o' N x' K=>?_;have p':=(J'.h y).mp<|J p<|dN _<|bu ..;haveI ao':Z w<=4:=pG W' (p.symm▸(J bI<|az kP I):Z I'=Z w+(Z C'+1));refine⟨λC=>?_,λC=>?_⟩
  .refine ay (ah' y p'<|bU C) λd' aa' ab'=>?_;haveI y':=A' y p';haveI ap':y∉w:=λh=>by refine aE ((qR.mp<|az p J'.e).2.2 y h y<|bu ..) (λh=>?_) λh=>?_<;>(first|exact pH h|exact(aq [1] I:ap 0 1 [.b .a .a] .i) h.2)
   refine jK qu I (F.q y'.2) (ct D)<|bV ht (by unfold ct;rw[bv];exact cX K<|cX ao' as) bk<|pB.a _ (J ky<|J qJ<|aa'.symm▸I:(c'.i M<|.e<|ct D).i M (.e<|ct D++[.g [.a (ao y),ia<|s.e.q (ao y)]])=c'.i M (.e<|ct<|D++[((ao y:am),d')])) ?_ (x'.u (vb y'.1 oY qh) ab'<|a1<|aF _ y'.2 aa')<|J bI<|J bI<|fP K;haveI L':=N.g F.i a' y'.v (J (fI y'.1)<|J (s'.2 y p'<|v' y p'<|bU C).1 I) (by rw[du];exact dQ y p' (bU C) I ap') ab'<|G'<|H' w;rw[du]at L';rw[cW.d]at L'
   .exact L'
   .intro v _ _;constructor
    .exactλe'=>Ec e' λM' z L P aq'=>aM aq' λW Q=>dQ z L P W λh=>aE (cK.mp h) Q λh=>M'<|az W<|az (b9.mp h) I
    .exactλe'=>dC e' λz L P W Q=>kp (λM'=>Q<|dN _<|b9.mpr<|ls E' L p'<|bx W M') z L P W λh=>Q<|ii _ h
  .refine .mk D _ ?_ x'<|J bI<|j0 K;rw[cW.d]at N
   .exact N
   .intro v _ _;constructor
    .exactλe'=>dC e' λz L P W Q=>dQ z L P W λh=>aE (cK.mp h) Q λh=>P<|(b9.mp h).trans<|oV.mp<|cg C
    .exactλe'=>dC e' λz L P W Q=>dQ z L P W λh=>Q<|ii _ h
 .refineλY' Z' k K'=>K'.casesOn λD o' N x' K=>?_;haveI ar':ea (cW n s.b (λz=>z=x)<|px (s.a t) I' x)=[x]:=by refine(lz (cW.e F.i<|G'<|H' _) (xG ..) λz=>?_).symm;rw[b9];exact⟨aK,λC=>aE C id λt'=>RA t' λu' u' y X u' u' H=>aA ((J'.h y).mpr X) H⟩
  replace N:=ar'▸N;have ac':∀(p:U dw)(z' d':am)(R:aJ),Z p<=1->el G n m {s.e with l:=s.e.l++p,b:=z'} s.g->cL (s.e.l++p) d' [x]->aT c R->fb c R->∀o',bs (aO a2<|d+6) (.d (.b (.i (.f (.c 0) 0 19)<|.n<|.c 2)<|.a d')<|.b (.f (.c 0) 0 20)<|.m cY (.f (.c 0) 0 20)<|.a 1) j' [.b 0,.a S,.a x,.a t,.e M,o'] (s.w {s.e with l:=s.e.l++p,b:=z'}) R:=λp z' d' R as' at' au' X H o'=>aM (b'.g a' at' as' q' r' P' au') λav' aw'=>sE I (F.q k'.2) bk (s.w ⟨s.e.l++p,z',aw s.e.q (ao x)<|Y d',s.e.a⟩) I I ar<|aF (s.w ⟨s.e.l++p,z',aw s.e.q (ao x)<|Y d',s.e.a+1⟩) I<|h _ _ _ _ _ _ aw' av' (az q' I) ⟨X.d,X.a⟩ λu=>(lb (o:=0) (a:=20) as).trans<|H u;refine aP I (F.g l')<|tl I I b'.c.b (aH ad' as) B' N x'.e (vc W' K) (ci (b7 _) n'.d) ht (λp=>?_) λaz' p R X H=>ac' [le (s.g t) D [x]] p (Z s.e.l) R (b4 _) (b'.c.d B' N x' (aK<|aF t l' I) p) cL.d ((λR X=>((λB=>⟨aH (cO _) n'.d,λN' f'=>(aG<|bj f').trans<|(n'.a N'<|er f').trans<|aG<|bj f'⟩:∀B,aT c (c'.i M<|.e B))<|ct D).i X) R X) (λu=>(H u).trans<|X' _ u) o'
  .subst p;obtain rfl:F'=[x]:=N;haveI:=ac' [] s.e.b (s.g t) (c'.i M<|.e<|ct []) (f7 _) ((dI _).symm▸b'.c) ((dI _).symm▸B') ((λB=>⟨aH (cO _) n'.d,λN' f'=>(aG<|bj f').trans<|(n'.a N'<|er f').trans<|aG<|bj f'⟩:∀B,aT c (c'.i M<|.e B)) _) (X' _) o';replace this:=(dI _)▸this;exact this
theorem KN(T:bG n t)(P:v<=n)(s:t.b v≠0)(q:t.e v=0):∀y∈t.f,t.h v<y:=λy a=>bH (kR.mp a) λk C=>(T.b v P s k y C).mpr<|y1 q
theorem Cj:ql (ia o)=an↔o=au:=by induction o with|none=>exact⟨λ_=>I,λ_=>I⟩|some a=>exact⟨λh=>be (nD h),λh=>aC h ar⟩
structure kb(G:U (U am))(A:U am)(n m:O)(s:aB)(p:dD):Prop where
 b:cD n m s.d
 j:bG n s.b
 o:cT n A s.b m s.a
 c:dp G n m s.b s.a s.g p
 t:ee s.e p
 g:Z s.e.l<=700
theorem kb.l(E:kb G A n m s p)(B:dp G n m s.b s.a s.g s.e):Z p.l<=710:=ch E.c.b.f λr o S e=>ay B.b.f λy h e=>(aq [1,1,1,0,1,0,1,1,1,1] I:ap 6 2 [.d (.d .g .j)<|.d .a .b,.c .a .s,.g .f .l,.c .b .v,.g .l .g,.g .g<|.c 4,.g .b<|.c 700] (.g .a<|.c 710)) E.t.k o S h E.j.k E.b.i E.g
inductive rZ(G:U (U am))(A:U am)(n m:O)(s:aB)(c:aJ)(p:dD)(v k:O):U V->aB->aJ->Prop|mk(E:dD)(d t y f:V)(e:aJ)(g:kb G A n m s E)(X:ee p E)(x:aT c e)(h:fb c e)(C:(k:am)=Z s.b.a-E.a):rZ G A n m s c p v k [.b 0,.a v,d,t,y,f] (s.w E) e
theorem Dy(a':x=.a v)(b':dp G n m s.b s.a s.g s.e)(t:kb G A n m s p)(P:v<=n)(T:s.b.b v≠0)(c':s.b.e v=0)(d':∀E f o y,kb G A n m s E->ee p E->E.q v=Y o->cL E.l o [y]->bt n y->ao y=v->a4 s.b.b y=1->aT c f->fb c f->K (.a o) (s.w E) f):aO a2 (d+7) 45 [.b 0,x] (bJ K)<|aL (s.w p) c:=by
 subst a';refine cb I I I<|.mk (rZ G A n m s c p v) (bM (Z s.b.a-p.a)) (rZ.mk p _ _ _ _ c t ee.j aT.j (λH=>I) ?_) ?_
 .exact ch t.c.b.f λe' D W H=>sa<|eU<|(aq [1,1,0,1] I:ap 2 1 [.c .a .g,.g .a .b] (.d .i<|.d .j .a)) D W
 refineλw' x' y' f f'=>f'.casesOn λE z' A' B' C' f C X k r g'=>?_;refine bV I (t.b.q P) (λM=>?_) λM=>?_
 .refine dC C.c.b.f λe' D W D' h'=>cF (t.j.c v P T) λF y z i'=>?_;subst i';have N:=tN λq=>by refine ay ((h' F y z).1 q) λo Q H=>?_;replace Q:=(Cj.mp M)▸Q;exact aC Q ar
  exact P7 t.b t.j t.o C.c (aH (C.l b') as) D (cl<|cX N<|dB z) (λj' k'=>(aq [1,1,0,1,1] I:ap 2 2 [.g .a .b,.c .a .j,.b .a .b] (.b .g .b)) N (t.j.s F y z).2.2<|KN t.j P T c' j' k') λw E' l' m' n' o' B p' R q' r'=>⟨bM (Z s.b.a-w.a),(aq [1,0,1,1,0,0,1,1] I:ap 4 2 [.c .g<|.d .j .a,.c .a .s,.c .b<|.h .s,.c .u<|.d .j .b] (.e .l .a)) g' D R<|eU<|zQ N (dB z) R,rZ.mk w l' m' n' o' _ ⟨t.b,t.j,t.o,p',C.t.i B,t.g⟩ (X.i B) (k.i q') (λL=>(r' L).trans<|r L)<|sa<|eU<|zQ N (dB z) R⟩
 .refine bb ?_;intro F';exact bH (Option.ne_none_iff_exists'.mp λq=>tB<|(Cj.mpr q).symm.trans M:∃o,E.q v=Y o) λo S=>dd (NP t.j C.c.b P S) λF y z s' t'=>b6 (t.j.s F y z) λu' v' H=>aP I (t.b.q P) (J S<|d' E f o y C X S t' u' s' v' k r:K (ia<|E.q v) _ _)
structure jC(n m:O)(t:b3)(r:O->am)(p:dD)(x:U (am×am))(D:U O):Prop where
 a:x.map S6=D.map λv:O=>(v:am)
 b:∀q∈x,∃y,cL p.l q.2 [y]/\bt n y/\q.1=ao y/\a4 t.b y=1/\hb n m p r q.2
theorem jC.f(R:jC n m t r p x D)(X:ee p E):jC n m t r E x D:=⟨R.a,λq M=>nz (R.b q M) λy A i Q b d=>h1 y (X.b A) i Q b<|el.c X.q (b4 _) (λa a=>I) d⟩
theorem jC.e(R:jC n m t r p x D):fc p.l (hb n m p r) x:=⟨λq M=>dC (R.b q M) λy a i Q a=>J Q<|vb i.1 oY qh,λq M=>ay (R.b q M) λy A a=>A.e,λq M=>nz (R.b q M) λy a a a a d=>d⟩
theorem jC.g{t:b3}{r:O->am}{p:dD}(s:n<=4)(T:bG n t){F:am->Prop}{d:U am}{b:U (am×am)}:∀{i:U (am×am)}{D:U O}{S:O->Prop},jC n m t r p b D->(b0 D)->(∀v∈D,S v)->(∀x,F x->bt n x/\a4 t.b x=1/\¬S (ao x))->c4 p.l d i (ea<|cW n t F S)->c4 p.l d (i++b) (ea<|cW n t F λu=>u∉D/\S u):=by
 induction b with
 |nil=>
  intro i D S R a a a c;refine J (List.map_eq_nil_iff.mp R.a.symm) ?_;rw[dI];rw[cW.d]at c
  .exact c
  .exactλv a a=>⟨λh=>⟨fO,h⟩,λh=>h.2⟩
 |cons q b w=>
  intro i D S R z f E c;obtain⟨v,k,rfl⟩:∃v k,D=v::k:=by induction D with|nil=>exact aC R.a ar|cons v k=>exact fu v k I
  haveI j:=R.a;rw[iO,iO]at j;injection j with A B;refine bb ?_;intro W;refine nz (R.b q<|bu ..) λy C G Q H a=>?_;haveI X:=de<|bx Q.symm A;refine aM (dO.mp z) λK L=>?_;haveI l:=c.g s T G H (J X<|f v<|bu ..) C E;rw[<-Q,X]at l;haveI:=w ⟨B,λq N=>R.b q<|cm _ N⟩ L (λu o=>⟨λe=>K<|az e o,f u<|cm _ o⟩) (λx M=>aP (E x M).1 (E x M).2.1 λP=>(E x M).2.2 P.2) l;rw[iL]at this;rw[cW.d]at this
  .exact this
  .intro u _ _;rw[cu,yl];exact⟨λh=>⟨⟨h.2.1,h.1⟩,h.2.2⟩,λh=>aP h.1.2 h.1.1 h.2⟩
inductive pw(G:U (U am))(A:U am)(n m:O)(s:aB)(p:dD)(r:aJ)(N:O)(q:U O):U V->aB->aJ->Prop|mk{e:aJ}(E:dD)(x:U (am×am))(R:jC n m s.b s.g E x q)(a:kb G A n m s E)(X:ee p E)(b:aT r e)(z:fb r e)(M:Z q<=N):pw G A n m s p r N q (ct x) (s.w E) e
theorem pw.a(x:U (am×am))(e:f=ct x)(R:jC n m s.b s.g E x q)(c:kb G A n m s E)(X:ee p E)(d:aT r b)(z:fb r b)(M:Z q<=N):pw G A n m s p r N q f (s.w E) b:=J e<|.mk E x R c X d z M
theorem w0(B:dp G n m s.b s.a s.g s.e)(N:kb G A n m s p)(w:(aL (s.w p) c).k y=Y (bQ vs))(F:y≠.d)(P:∀v∈vs,v<=n/\s.b.b v≠0/\s.b.e v=0)(Q:Z vs<=20)(x:∀E f j g o,o.Perm vs->jC n m s.b s.g E g o->kb G A n m s E->ee p E->aT c f->fb c f->c.d<=j->j<f.d->f.a j=Y (.e<|ct g)->K (.e j) (s.w E) f):aO a2 (d+8) 44 [.b 0,y] (bJ K)<|aL (s.w p) c:=by
 refine cb I I (qn ar F)<|dM ?_;intro p' q';refine⟨λq=>aC q ar,λS=>gt I F<|Dt N.b w F (λv a'=>(P v a').1) Q λo H r'=>?_⟩;let b':=c.b<|.e<|bQ o;refine⟨O,o,λv=>V.a v,pw G A n m s p b' (Z o),I,?_,.mk p [] ⟨I,λS q=>aC q ar⟩ N ee.j aT.j (λS=>I)<|f7 _,?_,λT W f t=>t.casesOn λ{f}E g R z X l C M=>x E _ f.d g o H R z X (((aT.b _).i l).i<|aT.b _) (λD=>C D) (aH (aT.b _).d l.d) (b7 _) aR⟩
 .refineλq T W f t=>t.casesOn λ{f}E g R z X l C M=>⟨fW<|(l.a _<|b7 _).trans aR,?_⟩;haveI:Z g=Z q:=by haveI:=aW Z R.a;rwa[bv,bv]at this
  unfold ct;rw[bv,this];exact cX (aH M<|J (fK H) Q) as
 .refineλq v s' T W f h t=>t.casesOn λ{f}E g R z X l C M=>b6 (P v<|H.mem_iff.mp<|J h<|dN _<|bu ..) λr c' d'=>D2 ar<|Dy I B z r c' d' λt' u' e' f' g' L h' i' j' k' l' m' n'=>pw.a (g++[((v:am),e')]) (az qJ I) ⟨by refine dY.symm▸(J dY<|az (R.f L).a ?_);rfl,λo' u=>?_⟩ g' (X.i L) (l.i m') (λD=>(n' D).trans<|C D)<|J h<|bI.symm▸(J bI<|iR (fP<|f7 _) _)
  .rcases cK.mp u with u|u
   .exact(R.f L).b o' u
   .exact J (b9.mp u)<|h1 f' i' j' (aW ig k'.symm) l'<|a1<|aF v r h'
structure mT(p E:dD):Prop where
 l:∃e,E.l=p.l++e
 q:∀(v:O)(o:am),p.q v=Y o->E.q v=Y o
 k:(Z E.l:am)-Z p.l<=E.a-p.a+1
theorem ee.a{p E:dD}(c:ee p E):mT p E:=⟨c.l,c.q,(aq [1,1] I:ap 2 2 [.d (.d .g .j)<|.d .a .b] (.d (.d .g .j)<|.h<|.d .a .b)) c.k⟩
theorem ee.u{f E:dD}(c:ee f E)(q:dw)(e:am):mT f {E with l:=E.l++[q],b:=e}:=bH c.l λi x=>⟨⟨i++[q],by refine(?_:E.l++[q]=_);rw[x,iL]⟩,c.q,J bI<|J xD<|(aq [1,1] I:ap 2 2 [.d (.d .g .j)<|.d .a .b] (.d (.d (.p<|.h .a) .j)<|.h<|.d .a .b)) c.k⟩
theorem xh{l:U am}:l.map (λx=>V.a (ao x))=bQ (l.map ao):=by unfold bQ;exact J go I
theorem dp.a{t:b3}{k:db}{d:O->am}{p:dD}(B:dp G n m t k d p){q:dw}{e:am}(P:el G n m {p with l:=p.l++[q],b:=e} d):dp G n m t k d {p with l:=p.l++[q],b:=e}:=⟨⟨dC B.b.f λr A j Q h=>dQ r A j Q λi x M=>⟨λy=>ay ((h i x M).1 y) λo f g=>aF o f g.f,(h i x M).2⟩,B.b.w⟩,λc s=>ay (B.d c s) λu f g=>aF u f.f g,P⟩
theorem Di{D:O}{x:V}(w':x=.a D)(H:cD n m s.d)(r':bG n s.b)(s':cT n A s.b m s.a)(e':dp G n m s.b s.a s.g s.e)(x':Z s.e.l<=700)(N:D<m)(Q:∀q∈s.a D,a4 s.b.b q=-1/\s.b.e (ao q)=0)(C:∀E r w,mT s.e E->dp G n m s.b s.a s.g E->cL E.l w []->aT c r->K .z {s with e:=E,s:=Y w,p:=ax} r):aO a2 (d+9) 46 [.b 0,x] (bJ K)<|aL s c:=by
 revert d n m s c K G A D x;refine@je _<|eZ @(letI d:=_;letI n:=_;letI m:=_;letI s:=_;letI c:=_;letI K:=_;letI G:=_;letI A:=_;letI D:=_;letI x:=_;(e2 ?_:eD _ _ _ _ _ d n m s c K G A D x));intros;refine J w' ?_;haveI W:D<s.d.a:=J (aW dn.a H.d) N;refine aM (s'.d D N) λf' t'=>?_;have g':=aH (hk f' t') H.i;refine cb I I I<|dM ?_;intro Q' R';refine bN<|dW ?_;have y':∀(h':br),(∀E r k L o,o.Perm ((s.a D).map ao)->jC n m s.b s.g E L o->kb G A n m s E->aT c r->k<r.d->r.a k=Y (.e<|ct L)->h' (.e k) (s.w E) r)->bh (aO a2<|d+8) (.j (.c 0) 0 44<|.b (.y 3 (.i (.f (.c 0) 0 12)<|.c 1)<|.n<|.c 3) .d) [.b 0,.a D,.d,.d] h' s c:=λh' z'=>h9 I<|d7<|lc (s.a D) V.a (λx=>V.a (ao x)) (λA' i'=>aP I (H.a N) i') I (ol I W) (aH g' as) (λt t=>ar) (λx t A' i'=>i')<|w0 (s:=s) (p:=s.e) e' ⟨H,r',s',e',ee.j,x'⟩ (oa<|aR.trans<|az xh I) ar (λB' j'=>ay (bL.mp j') λq v C'=>az C'<|aP (f' q v).2 ((λq v M=>aA (c7.mpr M) (by refine J (Q q v).1 ?_;decide):∀q∈s.a D,s.b.b (ao q)≠0) q v) (Q q v).2) (by rw[bv];exact z9 g') λE r k L o B R k' l' D' S' T' E' F'=>z' E r k L o B R k' ((aT.b _).i D') E' F';refine y' _ λE U' k L o P S F u' G' H'=>ay (F.c.d D N) λm' T I'=>?_;have J':∀{K':O->Prop}(x:am),bW->bt n x/\a4 s.b.b x=1/\¬K' (ao x):=λt C=>be C;have L':m'=ea (cW n s.b (λt=>bW) λu=>∃q∈s.a D,ao q=u):=by
  refine lz (cW.e H.i λt C=>be C) (F.c.c.b _ _ T).1 λa'=>?_;rw[I'];refine⟨λW=>a1<|eP (f' a' W) (Q a' W).1 a' W I,λn'=>aE n' be λo'=>oR o' λP p' q b' q'=>?_⟩;rcases gd q' with rfl|rfl
  .exact b'
  .haveI:=(Q _ b').1;replace this:=p'▸(fI P.1)▸this;exact aA this as
 have c':=S.g H.i r' (P.nodup_iff.mpr t') (λB' j'=>by exact ay (bL.mp<|P.mem_iff.mp j') λq M' N'=>aF q M' N') J'<|show c4 E.l m' [] (ea<|cW n s.b (λt=>bW) λu=>∃q∈s.a D,ao q=u)from L';have O':ea (cW n s.b (λt=>bW) λu=>u∉o/\∃q∈s.a D,ao q=u)=[]:=(lz (cW.e H.i λt C=>be C) tH λa'=>⟨λC=>aC C ar,λn'=>aE n' be λo'=>Eb o' λt t p' q b' q'=>aA (P.mem_iff.mpr<|q'▸fM b') p'⟩).symm;rw[O',xF]at c';have P':Z L<=100:=by haveI:=aW Z S.a;rw[bv,bv,fK P,bv]at this;exact(aq [1,1,1] I:ap 2 0 [.g .a<|.c 4,.a .b .a] (.g .b<|.c 100)) g' this
 have v':∀X w d',mT s.e X->dp G n m s.b s.a s.g X->cL X.l w []->aT c d'->bs (aO a2<|d+8) (.d (.b (.f (.c 0) 0 22)<|.a w)<|.b (.f (.c 0) 0 21)<|.h ax) (eg K) [.b 0,.a D,.e k,.d] (s.w X) d':=λX w d' B R k' l'=>na I ar ({s.w X with s:=Y w}) I I<|md ar _ I<|C X _ w B R k' ⟨l'.d,l'.a⟩;refine aP I (H.g N)<|tl I I F.c.c.b (aH (F.l e') as) T c' S.e.e P' G' H' (λM=>?_) λV' M d' B R=>v' {E with l:=E.l++[le (s.g D) L []],b:=M} _ _ (F.t.u _ M) (F.c.a<|F.c.c.d T c' S.e (aK<|aF D N I) M) cL.d<|u'.i B
 .refine bb ?_;intro W';subst M;obtain rfl:m'=[]:=c';exact v' E _ _ F.t.a F.c T u'
def aB.E(s:aB)(b:db)(G:O->U am):aB:={s with a:=b,k:=G}
theorem tw{f:O->α}{x y:α}:aw (aw f i x) i y=aw f i y:=by
 funext j;by_cases e:j=i
 .exact J e<|J aR<|J aR I
 .exact J (aG e)<|J (aG e)<|J (aG e) I
inductive yz(s:aB)(c:aJ)(r:U am)(D i:O):U V->aB->aJ->Prop|mk(z:V)(e:∀d y,d<i->r[d]?=Y y->a4 s.b.b y=-1):yz s c r D i [.b 0,.a D,.j (.a 0 12 D)<|c.e<|.a 0 12 D,z] s c
theorem PP(c':x=.a D)(o:y=.j (.a 0 12 D) (c.e<|.a 0 12 D))(A:cD n m s.d)(d':D<m)(B:s.a D=l::k::r)(e':∀y∈s.a D,bt n y)(G:Z r<=100)(f':∀p,Z (s.k p)<=1000)(g':(∀y∈r,a4 s.b.b y=-1)->K (.h ax) s c)(h':∀i z,r[i]?=Y z->a4 s.b.b z≠-1->K (.h an) (s.E (aw s.a D<|l::z::r.set i k)<|aw s.k (bK z)<|s.k (bK z)++[(D:am)]) c):aO a2 (d+2) 37 [.b 0,x,y] (bJ K)<|aL s c:=by
 subst c' o;have E:D<s.d.a:=J (aW dn.a A.d) d';have t:Z (s.a D)=Z r+2:=J B I;have C:Z (s.a D)<=1000:=Aa G t;refine cb I I I<|dM ?_;intro l' m';refine fg I E (aH C as) ⟨as,(aq [1,1,1,0,1] I:ap 3 0 [.g .a<|.c 100,.a .b<|.e .a<|.c 2,.c .s .j] (.e .f<|.c<|2^30)) G t<|gj<|@k9 _⟩ ⟨aK I,⟨O,b2 (Z r),λi=>V.a<|2+i,λp=>yz s c r D (Z p),?_,.mk _ λv n' u=>aA u<|my _,?_,λL S T N=>N.casesOn λi' P=>g' λy o=>bH (kR.mp o) λv u=>P v y (J ec<|dB u) u⟩⟩
 .rintro p L S T _;exact mh<|(c8 [1,1] [1,0,1] I I:ap 2 0 [.a .a<|.e .b<|.c 2] (.c .g<|.e (.c 2) .j)) t
 .refineλp i o' L S T j' N=>N.casesOn λi' P=>?_;obtain⟨rfl,H⟩:=lx j';refine(J (show(2:am)+(Z p:O)=(Z p+2:O)from@GB _)<|bH (⟨_,cl H⟩:∃z,r[(Z p)]?=Y z) λz X=>?_:bs _ _ _ [_,_,_,.a<|2+Z p] _ _);have F:=e' z<|J B<|cm _<|cm _<|dZ X;have q:bS (s.a D) (Z p+2) 0=z:=J B<|fV X;refine bV I E (eG (Ab t H) C)<|jS (aW V.a q) A F ⟨λQ=>let w:=(s.a D).set 1<|bS (s.a D) (Z p+2) 0;let M:=aw s.a D w;haveI a':Z (M D)=Z r+2:=(J aR<|J jZ t:Z (aw s.a D w D)=_);let b':={s with a:=aw M D<|(M D).set (Z p+2)<|bS (s.a D) 1 0};let W:=l::z::r.set (Z p) k;haveI k':b'={s with a:=aw s.a D W}:=(J tw<|aR.symm▸q.symm▸(show bS (s.a D) 1 0=k from J B I).symm▸(J B I):({s with a:=aw (aw s.a D<|(s.a D).set 1 _) D<|(aw s.a D ((s.a D).set 1 _) D).set (Z p+2) _}:aB)=_);ko I E (eG (Ab t H) C) I E (eG (vd t) C)<|fg I I E (eG (vd t) C)<|h2 ({s with a:=M}) I I I E (eG ((aq [1,1,0,1] I:ap 3 0 [.e .a .b,.a .f<|.e .b<|.c 2] (.e (.e .a<|.c 2) .f)) H a')<|Aa G a')<|bO b' I I<|J k'<|bV I E (show d5 (1:am) (Z (aw s.a D W D))from J aR<|eG (xL<|gD _) (J jZ<|(aq [1,1] I:ap 1 0 [.g .a<|.c 100] (.g (.e .a<|.c 2)<|.c 1000)) G:Z (r.set (Z p) k)+2<=1000))<|qA (aW V.a (J aR I:bS (aw s.a D W D) 1 0=z)) F.1<|sD I (A.k F) (aP I (A.l F) bk) I (A.l F) ((λp=>cX (f' p) as) _) (s.E (aw s.a D W)<|aw s.k (bK z)<|s.k (bK z)++[(D:am)]) I<|h' (Z p) z X<|bU Q,λQ=>.mk _ λv y u o=>?_⟩
  .rw[bI]at u;refine aE (f6 v (Z p)) (λR=>P v y R o) λR=>?_
   .obtain rfl:v=Z p:=tM (kU u) R;replace o:=X▸o;exact az (bE o)<|oV.mp<|cg Q
end
end
mutual
theorem eF.k(W:eF a f b)(p:O):Z (b p)<=a:=by haveI h:=λx M=>ch ((W.h p x).mp M) λc A i d=>bL.mpr<|aF c (ed.mpr i) A.symm;haveI:=hx (W.g p) h;rwa[bv,ec]at this
end
section
variable{d n m:O}{s:aB}{c:aJ}{K:br}{G:U (U am)}{A:U am}
mutual
def aB.q(s:aB)(t:b3)(c:db)(G:O->U am):aB:={s with b:=t,a:=c,k:=G}
def D8:bo:=.d (.c (.t (.l dj (.j (.c 0) 0 23<|.b (.i (.c 7)<|.a 0) .d)<|.q 1)<|.j (.c 0) 0 37<|.b (.c 6)<|.b (.c 7) .d) .k .e)<|.d (.f<|.o (.c 3)<|.c 6)<|.d (.c (.l cB (.j (.c 0) 0 23<|.b (.i (.c 7)<|.a 0) .d)<|.q 2) (.d (.b (.a 4)<|.c 6)<|.d (.f<|.F (.c 3)<|.ab (.c 2)<|.m cY (.c 5)<|.a 1) .j) .e)<|.c (.l cB (.j (.c 0) 0 23<|.b (.i (.c 7)<|.a 0) .d)<|.q 0) (.f<|.j (.c 0) 0 32<|.b (.i (.c 7)<|.a 0)<|.b (.c 6) .d) .e
theorem P9{a':eX}{t:b3}{M:db}{L:O->U am}{b' K S:U am}{E N k f' P:O}{G X:am}{r:U am}(W:cD n m s.d)(F':Z s.b.f<=100)(R:d6 n A m s.b s.a G f' K (E::S) t M L)(x:M E=X::G::r)(G':P=bK G)(z:L P=b')(v':b'.drop (N+1)=S)(g':Z K<=N)(p':N<Z b')(d':∀p,Z (L p)<=1000)(w':k<c.d)(q':∀C D w T,d6 n A m s.b s.a G f' T S C D w->w P=b'->Z T<=N+1->(∀p,p≠P->Z (w p)<=Z (L p)+1)->∀B,B=.b\/B=.e->a' B [.b 0,.a G,.j (.a 0 6 P)<|c.e<|.a 0 6 P,.e k,.a<|-1,.a N,.a E,.j (.a 0 12 E)<|c.e<|.a 0 12 E] (s.q C D w) (c.i k<|.e<|aD T))(H':eF m M (aw L P<|K++(E:am)::S)->(∀y∈M E,a4 t.b y=-1)->∀v,v.a k=Y (.e<|aD<|K++(E:am)::S)->aT c v\/(v.d=c.d+1/\∀u,u<c.d->u≠k->v.a u=c.a u)->v.e=c.e->a' .d [.b 0,.a G,.j (.a 0 6 P)<|c.e<|.a 0 6 P,.e k,.a E,.a N,.a E,.j (.a 0 12 E)<|c.e<|.a 0 12 E] (s.q t M L) v):bs (aO a2<|d+3) D8 a' [.b 0,.a G,.j (.a 0 6 P)<|c.e<|.a 0 6 P,.e k,.a<|-1,.a N,.a E,.j (.a 0 12 E)<|c.e<|.a 0 12 E] (s.q t M L)<|c.i k<|.e<|aD K:=by
 revert P;revert d n m s c A a' t M L b' K S E N k f' G X r;refine@qt _<|h0 @(letI d:=_;letI n:=_;letI m:=_;letI s:=_;letI c:=_;letI A:=_;letI a':=_;letI t:=_;letI M:=_;letI L:=_;letI b':=_;letI K:=_;letI S:=_;letI E:=_;letI N:=_;letI k:=_;letI f':=_;letI G:=_;letI X:=_;letI r:=_;(ic ?_:he _ _ _ _ _ _ d n m s c A a' t M L b' K S E N k f' G X r));intros;subst G';obtain⟨x',_,_,_,_,_,j',k'⟩:=R.B;have l':E<s.d.a:=J (aW dn.a W.d) x';haveI r':=j';replace r':=x▸r';have h':=r' X<|bu ..;have y':=aH (hk j' k') W.i;have m':d5 (0:am) (Z (M E)):=eG (J x<|gD _)<|aH y' as;have n':V.a (bS (M E) 0 0)=.a X:=by refine J x ?_;rfl
 haveI I':Z r<=100:=by
  haveI:Z (M E)=Z r+2:=by refine J x ?_;rfl
  exact(aq [1,1,0,1] I:ap 2 0 [.g .a<|.c 4,.a .a<|.e .b<|.c 2] (.g .b<|.c 100)) y' this
 haveI J':Z t.a<=100:=by haveI:=R.j.k;haveI:=W.i;exact uM (by assumption) (by assumption)
 have z':(a4 t.b X=1\/∀y∈r,a4 t.b y=-1)->bs (aO a2<|d+3) (.d (.f<|.o (.c 3)<|.c 6)<|.d (.c (.l cB (.j (.c 0) 0 23<|.b (.i (.c 7)<|.a 0) .d)<|.q 2) (.d (.b (.a 4)<|.c 6)<|.d (.f<|.F (.c 3)<|.ab (.c 2)<|.m cY (.c 5)<|.a 1) .j) .e)<|.c (.l cB (.j (.c 0) 0 23<|.b (.i (.c 7)<|.a 0) .d)<|.q 0) (.f<|.j (.c 0) 0 32<|.b (.i (.c 7)<|.a 0)<|.b (.c 6) .d) .e) a' [.b 0,.a G,.j (.a 0 6<|bK G)<|c.e<|.a 0 6<|bK G,.e k,.a<|-1,.a N,.a E,.j (.a 0 12 E)<|c.e<|.a 0 12 E] (s.q t M L) (c.i k<|.e<|aD K):=λA'=>by
  refine kp qu (aD K) ht (J eI<|cX g'<|ci p'<|aH (az z<|d' _) as) bk (J (by rw[ky,qK]:(c.i k<|.e<|aD K).i k (.e<|aD K++[.a E])=c.i k (.e<|aD<|K++[(E:Int)])) ?_:bs _ _ _ _ _ ((c.i k<|.e<|aD K).i k<|.e<|aD K++[.a E]));refine bV I l' m'<|jS n' W h' ⟨λH=>?_,λH=>bV I l' m'<|jS n' W h' ⟨λe'=>bV I l' m'<|qz n' I W h' (J R.f F') J' ?_,λe'=>q' _ _ _ _ (R.p x<|(hJ (R.j.w h')<|cg e').resolve_right<|cg H) z (by rw[bI];exact fP g') (λp o'=>cO _) _<|aK I⟩⟩
  .have H:=bU H;have s':(aD<|L<|bK G).drop (bM ((N:am)+1))=aD S:=J z<|v'▸(J (show bM ((N:am)+1)=N+1 from(dR [1,1] [1,0,1] I I:ap 2 0 [.c .g<|.h .j] (.a .a<|.h .b))<|eU<|@ve _) SB.symm);refine ko (bO (.o<|K++[(E:am)]) ht I bk) I (W.l R.r.1) I (@ve _) ((aq [1,1,1] I:ap 2 0 [.e .a .b,.g .b<|.c 1000] (.b (.h .g)<|.c<|2^62)) p'<|z▸d' (bK G):(N:am)+1<2^62)<|J5 (z.symm▸(aH (z▸d' _) as):Z (L<|bK G)<=bi) (bj w') (aD<|K++[(E:am)]) _<|fh (show∀{t' y:b8},((c.i k t').b y).a k=Y t' fromλ{t' y}=>(aG<|bj w').trans aR) aR (gw _) ?_ ?_ ?_
   .exact(J s'<|gw _:dA ((aD<|L<|bK G).drop _))
   .refine(?_:Z (aD<|K++[(E:am)])+Z ((aD<|L<|bK G).drop _)<=_);refine s'.symm▸(J eI<|J eI ?_);haveI:=z▸d' (bK G);exact aH (kS (aH (J bI<|fP g')<|aH p' this) (show Z S<=1000 from by refine az v'<|J Sv ?_;exact(aq [1,1,1] I:ap 2 0 [.g .a<|.c 1000,.g .b .a] (.g .b<|.c 1000)) (z▸d' (bK G))<|gC _ _)) as
   .haveI K':∀y∈M E,a4 t.b y=-1:=λy c'=>by
     replace c':=x▸c';rcases cu.mp c' with rfl|c'
     .exact H
     .rcases cu.mp c' with rfl|c'
      .exact R.r.2.1
      .exact aE A' (λQ=>aA Q (by refine J H ?_;decide)) λQ=>Q y c'
    refine H' R.x K' _ ?_ (a1 ⟨I,λu i' k'=>(aG k').trans<|(aG<|bj i').trans<|aG k'⟩) I
    .refine(?_:aw _ k _ k=_);refine J aR ?_;refine J s' ?_;unfold aD;rw[<-dY,iL];rfl
  .have e':a4 t.b X=0:=bU e';exact q' _ _ _ _ (R.i x e'<|hJ A' λQ=>aA Q (by refine J e' ?_;decide)) z (by rw[bI];exact fP g') (λp o'=>cO _) _<|aK I
 refine bV I l' m'<|jS (s:=s.q t M L) n' W h' ⟨λH=>?_,λH=>⟨λH=>aC H ar,λo'=>z'<|aK<|oV.mp<|cg H⟩⟩;refine PP I I W x' x j' I' d' (λL'=>⟨λH=>aC H ar,λo'=>z'<|a1 L'⟩) λu Q i' B'=>⟨λo'=>?_,λH=>aC H ar⟩;haveI M':(X::Q::r.set u G).Perm<|X::G::r:=by
  refine qN _ ?_;obtain⟨u',C',N',D'⟩:∃u' C',r=u'++Q::C'/\Z u'=u:=by exact bH (lH.mp i') λE' O'=>dr (r.take u) (r.drop<|u+1) (by exact az O'<|(SK u r).symm.trans<|az (xw E') I)<|List.length_take_of_le<|f4 E'
  rw[N',List.set_append_right _ _<|jt D',D',Nat.sub_self];exact(qN _ EH).trans<|(xq ..).trans<|qN _ EH.symm
 refine q' _ _ _ _ (R.D x M' B'<|dZ i') ?_ (j0 g') (λp P'=>?_) _<|a1 I
 .exact J (aG<|nt (R.r.1).1 (j' Q<|J x<|cm _<|cm _<|dZ i').1<|f8 λH=>B'<|J H R.r.2.1) z
 .refine aE (eo<|p=bK Q) (λH=>?_) λH=>?_
  .exact az H<|J aR<|J bI<|b4 _
  .exact J (aG H)<|cO _
structure gu(n:O)(A:U am)(m:O)(r:b3)(b:db)(t:b3)(a:db)(G:O->U am):Prop where
 j:bG n t
 o:cT n A t m a
 w:ew t m a
 x:eF m a G
 f:t.f=r.f
 s:∃e,t.a=r.a++e
 k:gq m b a
theorem d6.C(c:d6 n A m a b g h e H t L M):gu n A m a b t L<|aw M (bK g)<|e++H:=⟨c.j,c.o,c.w,c.x,c.f,c.s,c.k⟩
inductive lZ(n:O)(A:U am)(m:O)(s:aB)(g:am)(h E R c:O)(W:U am)(r:aJ)(i:O):U V->aB->aJ->Prop|mk(t:b3)(k:db)(G:O->U am)(d:U am)(f K l:V)(o:d6 n A m s.b s.a g h d (W.drop i) t k G)(F:G E=W)(C:Z d<=i):lZ n A m s g h E R c W r i [.b 0,.a g,.j (.a 0 6 E) R,.e c,.a<|-1,f,K,l] (s.q t k G)<|r.i c<|.e<|aD d
theorem lZ.a(x:lZ n A m s g h E R b W r i L X f)(e:j=i)(c:k=f):lZ n A m s g h E R b W r j L X k:=by subst e c;exact x
theorem Qa{h:O}(N':x=.a v)(G:cD n m s.d)(r':bG n s.b)(O':cT n A s.b m s.a)(P':ew s.b m s.a)(s':eF m s.a s.k)(Q':ck s.b m s.a h)(R':Z s.b.f<=100)(t':s.b.a[h]?=Y (-v))(S':∀y∈s.b.f,y<=h)(u':m<=900)(l':∀t k o u,gu n A m s.b s.a t k o->t.g=s.b.g->ck t m k (h+1:O)->aT c u->fb c u->K (.a<|-1) (s.q t k o) u)(T':∀q t k o u,gu n A m s.b s.a t k o->t.g=s.b.g->ck t m k h->q<m->(∀y∈k q,a4 t.b y=-1)->aT c u->fb c u->K (.a q) (s.q t k o) u):aO a2 (d+4) 36 [.b 0,x] (bJ K)<|aL s c:=by
 subst N';refine b6 (r'.s h _ t') λU' aw' T=>?_;have M:bt n v:=by haveI:=U'.v;rwa[fl]at this
 let E:=bK v;let W:=s.k E;have a':=λp=>aH (s'.k p) u';let N:=c.d;let R:=c.b<|.e [];have S:aT c R:=aT.b _;have V':d6 n A m s.b s.a v h [] W s.b s.a s.k:=by
  haveI:aw s.k E ([]++W)=s.k:=jy λp=>by
   by_cases B:p=E
   .refine J B<|J aR ?_;rfl
   .exact J (aG B) I
  exact⟨r',O',P',J this s',Q',λT q=>aC q ar,t',I,I,⟨[],(dI _).symm⟩,gq.j⟩
 have v':∀t k o C b' c' d' e' u,u.a N=Y (.e<|aD C)->aT c u->u.e=c.e->b'≠.d->(∀H,aT c H->fb c H->K b' (s.q t k<|aw o E C) H)->bs (aO a2<|d+3) (.d (.b (.i (.f (.c 0) 0 6)<|.r 17<|.b (.c 1) .d)<|.c 3)<|.a<|.c 4) (eg K) [.b 0,.a v,.j (.a 0 6 E)<|c.e<|.a 0 6 E,.e N,b',c',d',e'] (s.q t k o) u:=by exactλt k o C b' c' d' e' u m' f' W' X' Y'=>qA I M.1<|vU I (G.k M) C (s.q t k<|aw o E C) m' I<|gt I X'<|Y' _ ⟨f'.d,λP F=>(aG<|bj F).trans<|f'.a P F⟩ λn'=>(bf (by intro q;injection q with q1 Z' q3;exact aA Z' as)).trans<|uh W' _
 refine cb I I I<|dM ?_;intro ax' ay';refine qA I M.1<|ko I (G.k M) I I I I ?_;let w':=c.e<|.a 0 6 E;let x':U O->ft:=λp=>lZ n A m s v h E w' N W R (Z p);refine fg I (G.l M) (aH (a' E) as) ⟨by decide,((aq [1,1,1] I:ap 2 0 [.g .a<|.c 900,.c .j .g] (.e .b<|.c<|2^30)) (a' E)<|gj<|@k9 _:ao (Z W:am)<2^30)⟩ ⟨aK I,O,b2 (Z W),λn'=>V.a<|0+n',x',?_,lZ.a (lZ.mk (i:=0) s.b s.a s.k [] _ _ _ V' I<|b4 _) I (lv aR).symm,?_,?_⟩
 .rintro p y' z' u _;exact mh<|@sc _
 .refineλp n' az' y' z' u aa' o'=>o'.casesOn λt k o C c' d' e' w X A'=>?_;obtain⟨rfl,g'⟩:=lx aa';refine(?_:bs _ _ _ [_,_,_,_,_,.a<|0+(Z p:O),_,_] _ _);rw[nE];haveI ab':∀q,Z (o q)<=900:=λq=>by
   by_cases B:q=E
   .exact J B<|J X<|a' E
   .haveI:=w.x.k q;rw[aG B]at this;exact aH this u'
  replace w:=(xw g')▸w;obtain⟨D,B'⟩:∃D:O,W[(Z p)]=D:=(ay ((w.x.h _ _).mp<|J aR<|dN _<|bu ..) λD l' T=>⟨D,l'⟩);replace w:=B'▸w;refine bb ?_;intro aA';obtain⟨p',l,C',h',B,ac',ad',ae'⟩:=w.B;have i':D<s.d.a:=J (aW dn.a G.d) p';have D':Z (k D)<=1000:=aH (hk ad' ae')<|aH G.i as;have E':Z (k D)=Z h'+2:=by refine J B ?_;rfl
  haveI F':=eG (j:=0) ((aq [1,0,1] I:ap 2 0 [.a .a<|.e .b<|.c 2] (.e .i .a)) E') D';haveI G':=eG (j:=1) (vd E') D';refine bV I (G.l M) (J X<|eG g'<|aH (a' E) as:d5 (Z p:am) (Z (o E)))<|J (show bS (o E) (Z p) 0=(D:am)from X.symm▸(fV<|J (cl g')<|B'.symm▸I)) ?_;haveI H':∀Q I' J',d6 n A m s.b s.a v h C (D::W.drop (Z p+1)) t Q o->Q D=I'::v::J'->bs (aO a2<|d+3) D8 (sy (x'<|p++[Z p])<|oG (bs (aO a2<|d+3) (.d (.b (.i (.f (.c 0) 0 6)<|.r 17<|.b (.c 1) .d)<|.c 3)<|.a<|.c 4)<|eg K)<|eg K) [.b 0,.a v,.j (.a 0 6 E) w',.e N,.a<|-1,.a (Z p),.a D,.j (.a 0 12 D)<|c.e<|.a 0 12 D] (s.q t Q o) (R.i N<|.e<|aD C):=by
   intro Q I' J' j' f';refine P9 (c:=R) G R' j' f' I X I A' g' (λq=>aH (ab' q) as) (b7 _) (λaf' ag' ah' ai' aj' ak' al' T aB' am'=>?_) λaC' an' u m' z ao'=>?_
   .rcases am' with rfl|rfl<;>exact lZ.a (.mk af' ag' ah' ai' _ _ _ aj' ak' al') bI I
   .exact v' t Q o _ (.a D) _ _ _ u m' (aE z (λz=>S.i z) λap'=>aM ap' λz L=>⟨J z<|aH S.d<|cO _,λP F=>(L P (er F)<|bj F).trans<|S.a P F⟩) ao' ar λH L q'=>T' D t Q _ H j'.C j'.l j'.v p' an' L q'
  refine bV I (G.a p') (λq=>aC q ar) λT=>fg I i' F' (λq=>?_) λq=>?_
  .have q:bS (k D) 0 0=v:=bU q;have aq':l=v:=by replace q:=B▸q;exact q
   subst aq';let k':=aw k D<|(k D).set 0<|bS (k D) 1 0;let K':=s.q t (aw k' D<|(k' D).set 1 l) o;haveI ar':K'=s.q t (aw k D<|C'::l::h') o:=by refine(?_:s.q t (aw (aw k D<|(k D).set 0 _) D<|(aw k D ((k D).set 0 _) D).set 1 l) o=_);refine J tw<|J aR<|B.symm▸?_;rfl
   exact fh I i' G' I I<|na i' F' (s.q t k' o) I I<|jK I i' ((J aR<|J jZ G':d5 1 (Z (aw k D ((k D).set 0 _) D))):d5 1 (Z (k' D))) K'<|aP I I<|J ar'<|H' _ C' h' (w.y B) aR
  .have q:¬bS (k D) 0 0=v:=cg q;have as':=hJ ac' λat'=>q<|J B at';subst as';exact H' k l h' w B
 .refineλy' z' u o'=>o'.casesOn λt k o C c' d' e' w X A'=>?_;replace w:=(J ec EB:W.drop (Z (b2 (Z W)))=[])▸w;refine aM (w.G λy au'=>S' y<|az w.f au') λaD' av'=>?_;haveI L':=w.C;rw[dI]at L';exact v' t k o C _ _ _ _ _ ht ((λM'=>⟨S.d,λP F=>(aG<|bj F).trans<|S.a P F⟩:∀M',aT c (R.i N M')) _) I ar λH L q'=>l' t k _ H L' w.l av' L q'
def b3.l(t:b3)(h:am):b3:={t with g:=h}
theorem cT.g(z:cT n A t m a)(h:am):cT n A (t.l h) m a:=⟨z.f,z.d,z.l,z.m,z.p,z.h⟩
theorem bG.g(T:bG n t)(A:t.g<=B)(i:B<=Z t.a):bG n<|t.l B:=⟨T.s,T.c,λx M=>b6 (T.d x M) λa b c=>aP a b<|ey c A,T.f,T.a,T.b,⟨ey T.l.1 A,i⟩⟩
theorem gu.g(P:gu n A m r a t b e)(c:t.g<=h)(i:h<=Z t.a):gu n A m r a (t.l h) b e:=⟨P.j.g c i,P.o.g h,P.w,P.x,P.f,P.s,P.k⟩
theorem gu.i(P:gu n A m r a t b q)(Q:gu n A m t b h l p):gu n A m r a h l p:=bH P.s λe c=>bH Q.s λk F=>⟨Q.j,Q.o,Q.w,Q.x,bx Q.f P.f,⟨e++k,by rw[F,c,iL]⟩,P.k.i Q.k⟩
inductive rV(n m:O)(A:U am)(s:aB)(c:aJ)(k:O):U V->aB->aJ->Prop|mk(t:b3)(a:db)(G:O->U am)(d X:V)(e:aJ)(P:gu n A m s.b s.a t a G)(l:ck t m a t.g)(x:aT c e)(f:fb c e)(C:(k:am)=n-t.g):rV n m A s c k [.b 0,d,X] (s.q t a G) e
theorem PW(c':cD n m s.d)(T:bG n s.b)(k':cT n A s.b m s.a)(l':ew s.b m s.a)(m':eF m s.a s.k)(n':ck s.b m s.a s.b.g)(o':Z s.b.f<=100)(p':m<=900)(q':∀t v w r,gu n A m s.b s.a t v w->t.g=Z t.a->ck t m v (Z t.a)->aT c r->fb c r->K (.a<|-1) (s.q t v w) r)(r':∀q t v w r,gu n A m s.b s.a t v w->t.g=Z t.a->(∀x∈t.f,ck t m v x)->q<m->(∀y∈v q,a4 t.b y=-1)->aT c r->fb c r->K (.a q) (s.q t v w) r):aO a2 (d+5) 35 [.b 0] (bJ K)<|aL s c:=by
 refine cb I I I<|dM ?_;intro z' A';refine .mk (rV n m A s c) (bM (n-s.b.g)) (rV.mk s.b s.a s.k _ _ c ⟨T,k',l',m',I,⟨[],(dI _).symm⟩,gq.j⟩ n' aT.j (λd'=>I) ?_) ?_
 .haveI:=T.l.2;haveI:=T.k;exact sa<|eU<|(aq [1,1,1] I:ap 2 1 [.d .a .g,.g .a .b] (.d .i<|.d .j .a)) (by assumption) (by assumption)
 refineλB' C' D' r s'=>s'.casesOn λt v w E' F' r P e' f' g' t'=>have F:=P.j.k;have W:=c'.i;bb ?_;intro G';obtain⟨G,z⟩:∃G:O,t.g=G:=⟨bM t.g,(eU P.j.l.1).symm⟩;refine bV I (aH F<|aH W as) (λq=>?_) λq=>q' t v w r P (Ac P.j.l.2<|show¬t.g<Z t.a from cg q) (az (by exact Ac P.j.l.2<|show¬t.g<Z t.a from cg q:t.g=t.a.length) e') f' g'
 .haveI q:=bU q;refine bH (⟨_,cl<|vf z q⟩:∃x,t.a[G]?=Y x) λx M=>aP I (J z<|eG (vf z q)<|mV F W) ((z.symm▸(fV M):bS t.a (bM t.g) 0=x).symm▸(have D:=P.g (h:=t.g+1) (@GC _)<|(aq [1,1] I:ap 1 1 [.b .a .g] (.d (.h .a) .g)) q;eP I ar (s.q (t.l<|t.g+1) v w) I ?_):bs _ _ _ [_,.a<|-(t.a.getD t.g.toNat 0),_] _ _);have h':∀{C:aJ},aT {r with e:=dz r.e 0 10} C->fb {r with e:=dz r.e 0 10} C->aT c C/\fb c C:=λ{C}i' u'=>⟨f'.i ⟨i'.d,i'.a⟩,λH=>(u' H).trans<|(lb (o:=0) (a:=10) as).trans<|g' H⟩;refine Qa I c' D.j D.o D.w D.x (az z e') (J P.f o') (by rw[fl];exact M) (λy v'=>az z (P.j.d y v').2.2) p' (λB N Q C E j' X k L=>?_) λw' B N Q C E j' X x' y' k L=>?_
  .exact aM (h' k L) λR a'=>haveI S:B.g=(G+1:O):=J j'<|(c8 [1,1] [1,0,1] I I:ap 1 1 [.c .a .g] (.c (.h .a)<|.p<|.h .a)) z;⟨λb'=>aA I<|bU b',λd'=>⟨bM (n-B.g),(aq [1,0,1,1,0,0,1,1] I:ap 4 2 [.c .g<|.d .j .a,.c .a .s,.c .b<|.p<|.h .f,.c .u<|.d .j .b] (.e .l .a)) t' z S<|eU<|zR F z q S,rV.mk B N Q _ _ _ (D.i E) (J S X) R a'<|sa<|eU<|zR F z q S⟩⟩
  .refine aM (h' k L) λR a'=>⟨λd'=>fg I (aH E.j.k<|aH W as) I ar<|aF (s.q (B.l (Z B.a)) N Q) I<|r' w' (B.l (Z B.a)) N Q _ ((D.i E).g E.j.l.2<|gz _) I (λx M=>?_) x' y' ⟨R.d,R.a⟩ λH=>(lb (o:=0) (a:=10) as).trans<|a' H,λb'=>aA (cg b')<|@vg _⟩;replace M:=E.f▸M;exact X.g<|az z (P.j.d x M).2.2
theorem PX(g:cD n m s.d)(T:bG n s.b)(z:cT n A s.b m s.a)(E:ew s.b m s.a)(W:eF m s.a s.k)(h:ck s.b m s.a s.b.g)(i:Z s.b.f<=100)(j:m<=900)(l:∀t k f e,gu n A m s.b s.a t k f->t.g=Z t.a->ck t m k (Z t.a)->aT c e->fb c e->K (.a<|-1) (s.q t k f) e)(o:∀q t k f e,gu n A m s.b s.a t k f->t.g=Z t.a->(∀x∈t.f,ck t m k x)->q<m->(∀y∈k q,a4 t.b y=-1)->aT c e->fb c e->K (.a q) (s.q t k f) e):aO a2 (d+6) 47 [.b 0] (bJ K)<|aL s c:=cb I I I<|PW g T z E W h i j l o
def i2:O->am|0=>1024|q+1=>i2 q+i2 q/19+1
theorem uy:∀q,1024<=i2 q/\i2 q<=i2 (q+1)|0=>as|q+1=>haveI f:=uy q;⟨ey f.1 f.2,(λx M=>(aq [19,1,1] I:ap 0 2 [.d .i .a,.b .a<|.e (.m 19 .b)<|.c 19] (.d .a<|.h<|.e .a .b)) M<|xn as:∀x:am,0<=x->x<=x+x/19+1) _<|ey as<|ey f.1 f.2⟩
theorem ux(h:q<=r):i2 q<=i2 r:=by induction h with|refl=>exact gz _|step _ d=>exact ey d (uy _).2
theorem uw(h:q<=100):i2 q<=1000000:=ey (ux h) (by decide+kernel)
structure g9(n q:O)(h:ej)(s:O->ba):Prop where
 b:q<=100
 a:0<=h.b/\h.b<=i2 q
 c:∀v:O,v<=n->h.d v<=1000000*(q+if s v=an then 1 else 0)
theorem Bk{b:Prop}[jW b]:(if b then(1:am)else 0)<=1:=by split<;>decide
theorem J3{b:Prop}[jW b]:0<=(if b then(1:am)else 0):=by split<;>decide
theorem Ae{a s:am}{q:O}(h:a<=1000000*(q+0))(A:s<=1000000)(M:q<=100):a+s<=1000000000000:=by omega
theorem g9.e(B:g9 n q j k)(P:v<=n)(r:k v=ax)(s:l.d=aw j.d v (j.d v+j.b))(t:l.b=j.b):j.d v+j.b<=1000000000000/\g9 n q l (aw k v an):=by
 haveI G:=B.c v P;haveI p:=uw B.b;replace G:=(bf nD)▸r▸G;refine⟨Ae G (ey B.a.2 p) B.b,B.b,J t B.a,λu w=>J s ?_⟩;by_cases o:u=v
 .exact J o<|J aR<|aR.symm▸(J (a9 I)<|(aq [1,1,1,1] I:ap 1 3 [.d .a .b,.d .b<|.c 1000000,.d .f<|.m 1000000<|.e .g .i] (.d (.e .f .a)<|.m 1000000<|.h .g)) B.a.2 p G)
 .exact J (aG o)<|(aG o).symm▸(B.c u w)
def aB.z(s:aB)(a:O->ba)(h:ej):aB:={s with f:=a,c:=h}
def cq(s:O->ba)(E:O)(l:U am):U am:=l.filter λx=>a0<|ao x≠E/\s (ao x)=ax
theorem Cr:cq B sk (l++[x])=cq B sk l++if ao x≠sk/\B (ao x)=ax then[x]else[]:=by
 unfold cq;rw[xx];congr 1;split
 .next h=>exact EE<|fC h
 .next h=>exact ED<|J (io h) as
def d9(t:b3)(l:U am):U O:=(l.filter λx=>a0<|t.e (ao x)=0).map ao
def hu(t:b3)(l:U am):U am:=l.filter λx=>a0<|t.e (ao x)≠0/\t.e (ao x)=Z t.f
def iE(t:b3)(l:U am):U am:=l.filter λx=>a0<|t.e (ao x)≠0/\t.e (ao x)≠Z t.f
theorem sw{l:U am}{x:am}{f:am->ba}{P:Prop}[jW P](e:f x=an↔P):(l++[x]).filter f=l.filter f++if P then[x]else[]:=by
 rw[xx];congr 1;split
 .next h=>exact EE<|e.mpr h
 .next h=>exact ED λg=>h<|e.mp g
theorem qw:d9 t (l++[x])=d9 t l++if t.e (ao x)=0 then[ao x]else[]:=by unfold d9;refine J (sw ip)<|J dY ?_;congr 1;split<;>rfl
theorem wK:hu t (l++[x])=hu t l++if t.e (ao x)≠0/\t.e (ao x)=Z t.f then[x]else[]:=sw ip
theorem wL:iE t (l++[x])=iE t l++if t.e (ao x)≠0/\t.e (ao x)≠Z t.f then[x]else[]:=sw ip
theorem qI{v:O}:bQ (l++[v])=bQ l++[V.a v]:=dY
theorem wz(h:k≠b):(c.i k x).i b y=(c.i b y).i k x:=by
 refine(?_:({c with a:=aw (aw c.a k _) b _}:aJ)={c with a:=aw (aw c.a b _) k _});congr 1;funext j;by_cases e:j=k
 .exact J e<|J (aG h)<|J aR<|aR.symm▸I
 .by_cases d:j=b
  .exact az d<|J aR<|J (aG e)<|aR.symm▸I
  .exact(aG d).symm▸(aG e).symm▸(J (aG e)<|J (aG d) I)
theorem xf:aw (cE f l an) (ao x) an=cE f (l++[x]) an:=by
 funext v;refine aE (eo<|v=ao x) (λe=>J e<|J aR<|J (tv<|aF x (dN _<|gA _) I) I) λe=>?_
 .refine J (aG e) ?_;unfold cE;refine aE (eo<|∃w∈l,ao w=v) (λg=>J (a9 g)<|J (a9<|ay g λw a b=>aF w (ii _ a) b) I) λg=>?_
  .rw[bf g,bf];exactλc=>ay c λw a b=>aE (cK.mp a) (λa=>g<|aF w a b) λa=>e<|az b<|J (b9.mp a) I
inductive hC(n q D E x o:O)(s:aB)(c:aJ)(m:U am)(k:U O)(N:U am):U V->aB->aJ->Prop|mk(d:ej)(K g:V)(z:cZ n d)(B:g9 n q d (cE s.f N an))(H:∀u,u<=n->(0<=d.c u↔0<=s.c.c u)):hC n q D E x o s c m k N [.b 0,.a D,.a E,.e x,.e o,.a (Z (hu s.b N)),K,g] (s.z (cE s.f N an) d)<|(c.i x<|.e<|aD<|m++iE s.b N).i o<|.e<|bQ<|k++d9 s.b N
theorem hC.a{q D E x o:O}(K d:V)(z:cZ n f)(B:g9 n q f (cE s.f N an))(H:∀u,u<=n->(0<=f.c u↔0<=s.c.c u))(j:L=[.b 0,.a D,.a E,.e x,.e o,.a (Z (hu s.b N)),K,d])(l:X=s.z (cE s.f N an) f)(p:g=(c.i x<|.e<|aD<|h++iE s.b N).i o (.e<|bQ<|k++d9 s.b N)):hC n q D E x o s c h k N L X g:=by subst j l p;exact .mk _ _ _ z B H
theorem hC.b(e:l=N)(h:hC n q D E x o s c f k N L X g):hC n q D E x o s c f k l L X g:=J e h
theorem Dq{q cc sk k t:O}{j y:V}{v:U am}{A:U O}(o':j=.a cc)(p':y=.a sk)(F:cD n m s.d)(q':cZ n s.c)(r':g9 n q s.c s.f)(B:cc<m)(L:∀y∈s.a cc,bt n y)(r:(b0 ((s.a cc).map ao)))(s':Z s.b.f<=100)(a':k≠t)(G':k<c.d)(H':t<c.d)(t':c.a k=Y (.e<|aD v))(u':c.a t=Y (.e<|bQ A))(v':Z v<=100)(w':Z A<=100)(x':∀f,cZ n f->g9 n q f (cE s.f (cq s.f sk<|s.a cc) an)->(∀u,u<=n->(0<=f.c u↔0<=s.c.c u))->K (.a (Z (hu s.b<|cq s.f sk<|s.a cc))) (s.z (cE s.f (cq s.f sk<|s.a cc) an) f) ((c.i k<|.e<|aD<|v++iE s.b (cq s.f sk<|s.a cc)).i t<|.e<|bQ<|A++d9 s.b (cq s.f sk<|s.a cc))):aO a2 (d+4) 48 [.b 0,j,y,.e k,.e t] (bJ K)<|aL s c:=by
 revert j y;revert d n m s c K q cc sk k t v A;refine@fk _<|eZ @(letI d:=_;letI n:=_;letI m:=_;letI s:=_;letI c:=_;letI K:=_;letI q:=_;letI cc:=_;letI sk:=_;letI k:=_;letI t:=_;letI v:=_;letI A:=_;(e2 ?_:eD _ _ d n m s c K q cc sk k t v A));intros;subst o' p';refine cb I I I<|dM ?_;intro I' J';refine aP I (F.a B) ⟨am,s.a cc,V.a,λp=>hC n q cc sk k t s c v A<|cq s.f sk p,λp b' c' d' P=>P.casesOn λf G H Q Q Q=>ol I<|J (aW dn.a F.d) B,?_,?_,λb' c' d' P=>P.casesOn λf G H R C S=>x' f R C S⟩
 .refine hC.a _ _ q' ((oP).symm▸r') (λQ Q=>oW) I (J oP I) ?_
  .refine(?_:c=(c.i k<|.e<|aD<|v++[]).i t (.e<|bQ<|A++[]));rw[dI,dI,lv t',lv u']
 .refineλp j y' b' c' d' M P=>P.casesOn λf G H R C S=>?_;have T:=L j<|J M<|dN _<|bu ..;have e':Z (cq s.f sk p)<=4:=aH ((λp=>gY ..) p)<|pG (aH (hk L r) F.i:Z (s.a cc)<=4) (M▸bI▸kP▸I:Z (s.a cc)=Z p+(Z y'+1));have f':cE s.f (cq s.f sk p) an (ao j)=s.f (ao j):=iH λz'=>ay z' λK' A' B'=>by rw[M,dY,fN]at r;exact r.2.2 _ (fM (eq.mp A').1) _ (fM<|bu ..) B'
  haveI g':=Cr (B:=s.f) (sk:=sk) (l:=p) (x:=j);clear M;generalize cq s.f sk p=N at*;haveI h':=F.f T.2;haveI i':=F.e T.2;haveI j':¬(ao j≠sk/\s.f (ao j)=ax)->∀G H,hC n q cc sk k t s c v A (cq s.f sk<|p++[j]) [.b 0,.a cc,.a sk,.e k,.e t,.a (Z (hu s.b N)),G,H] (s.z (cE s.f N an) f) ((c.i k<|.e<|aD<|v++iE s.b N).i t<|.e<|bQ<|A++d9 s.b N):=λg G H=>.b (bx g' ((aW (N++·)<|bf g).trans<|dI _))<|.mk f G H R C S;refine⟨λg=>⟨λQ=>j' (λq=>q.1<|de<|bU g) _ _,λq=>aC q ar⟩,λg=>bV I h' (λE=>j' (λq=>nD<|q.2.symm.trans<|bx f'.symm E) _ _) λE=>?_⟩
  .have w:=bx g' (aW (N++·)<|a9 ⟨λq=>cg g<|aW ig q,bx f'.symm E⟩);haveI E:cE s.f N an (ao j)=ax:=E;haveI W:cE s.f (N++[j]) an=aw (cE s.f N an) (ao j) an:=xf.symm;haveI C':Z (bQ<|A++d9 s.b N)<bi:=by unfold bQ d9;rw[bv,bI,bv];exact cX (kS w'<|aH (gY ..) e') as
   refine jK I h' bk (s.z (aw (cE s.f N an) (ao j) an) f)<|fg I I i' (λz=>?_) λz=>?_
   .haveI z:s.b.e (ao j)=0:=bU z;refine kp qu _ ht C' bk<|hC.b w<|hC.a _ _ R (J W ⟨C.b,C.a,λu X=>ey (C.c u X) ?_⟩) S (by rw[wK,bf λg=>g.1 z,dI];rfl) (J W I) (by refine(?_:((c.i k _).i t _).i t _=_);rw[ky,qw,a9 z,wL,bf λg=>g.1 z,dI,<-qI,iL]);by_cases g:u=ao j
    .exact az g<|J aR<|J (a9 I)<|Sb (R3 Bk _) as
    .exact J (aG g)<|gz _
   .haveI z:s.b.e (ao j)≠0:=λM=>cg z M;haveI h:f.d (ao j)+f.b<=1000000000000:=by haveI h:=C.c (ao j) T.2;rw[E,bf nD]at h;exact Ae h (ey C.a.2<|uw C.b) C.b
    exact PD I F.p R T.2 h λL' k' D' E' F'=>haveI l':=J W (C.e T.2 E D' E').2;haveI m':=λu X=>(F' u X).trans<|S u X;aP I i'<|oJ s' ⟨λD=>haveI D:s.b.e (ao j)=Z s.b.f:=bU D;hC.b w<|hC.a _ _ k' l' m' (J wK<|J (a9 ⟨z,D⟩)<|J bI I) (J W I) (by rw[qw,bf z,dI,wL,bf λg=>g.2 D,dI]),λD=>haveI D:¬s.b.e (ao j)=Z s.b.f:=cg D;haveI n':=(aG a').trans ht;kp ⟨.o _,n',I,bk⟩ _ n' (J eI<|J bI<|cX (kS v'<|aH (gY ..) e') as:Z (aD<|v++iE s.b N)<bi) bk<|hC.b w<|hC.a _ _ k' l' m' (by rw[wK,bf λg=>D g.2,dI];rfl) (J W I) (by refine(?_:((c.i k _).i t _).i k _=_);rw[<-wz a',ky,qw,bf z,dI,wL,a9 ⟨z,D⟩,<-qK,iL])⟩
def j9(t:b3)(k:db)(s:O->ba)(x:am):Prop:=∃c:O,t.j (ao x)=c/\∀y∈k c,ao y≠ao x->0<t.e (ao y)->s (ao y)=an
inductive ps(s:aB)(c:aJ)(x:am)(p:U am):U V->aB->aJ->Prop|mk(t d:V)(e:∀y∈p,ao y≠ao x->0<s.b.e (ao y)->s.f (ao y)=an):ps s c x p [.b 0,.a x,.a<|s.b.j (ao x),t,d] s c
theorem Dl{x:am}{y:V}(P:y=.a x)(l:cD n m s.d)(Q:bt n x)(R:s.b.j (ao x)=-1\/∃c:O,s.b.j (ao x)=c/\c<m)(S:∀c,c<m->∀y∈s.a c,bt n y)(k:K (.h<|a0<|j9 s.b s.a s.f x) s c):aO a2 (d+1) 50 [.b 0,y] (bJ K)<|aL s c:=by
 revert d n m s c K x y;refine@fk _<|e0 @(letI d:=_;letI n:=_;letI m:=_;letI s:=_;letI c:=_;letI K:=_;letI x:=_;letI y:=_;(e3 ?_:eE _ _ d n m s c K x y));intros;refine J P ?_;have C:¬j9 s.b s.a s.f x->K (.h ax) s c:=λg=>by replace k:=(io g)▸k;exact k
 refine cb I I I<|dM ?_;intro d' e';refine bV I (l.j Q.2) (λg=>C λt=>ay t λD X f=>?_) λg=>?_
 .rw[(bU g:s.b.j (ao x)=-1)]at X;exact Ad X
 .haveI g:=cg g;refine ay (hJ R g) λD o u=>?_;haveI T:ho (.j (.a 0 12 (bM (s.b.j (ao x))))<|c.e<|.a 0 12 (bM (s.b.j (ao x)))) s c<|(s.a D).map V.a:=J o<|ol I<|J (aW dn.a l.d) u;refine aP I (J o<|l.a u) ⟨am,s.a D,V.a,ps s c x,λp L E F G=>G.casesOn λf f f=>T,.mk _ _ λf q=>aC q ar,?_,λL E F G=>G.casesOn λW e v=>(λg=>by replace k:=(fC g)▸k;exact k:j9 s.b s.a s.f x->K (.h an) s c)<|aF D o v⟩
  .refineλp y f' L E F r G=>G.casesOn λW e v=>?_;have H:y∈s.a D:=J r<|dN _<|bu ..;haveI M:=(S D u) y H;have A:(ao y≠ao x->0<s.b.e (ao y)->s.f (ao y)=an)->∀w∈p++[y],ao w≠ao x->0<s.b.e (ao w)->s.f (ao w)=an:=λg w a'=>aE (cK.mp a') (v w) λq=>J (b9.mp q) g;refine⟨λX=>bV I (l.e M.2) (λB=>bV I (l.f M.2) (λi=>C λt=>ay t λg' N b'=>?_) λi=>ps.mk _ _<|A λf f=>?_) λB=>⟨λq=>aC q ar,λf=>ps.mk _ _<|A λf q=>aA q<|cg B⟩,λX=>⟨λq=>aC q ar,λf=>ps.mk _ _<|A λq=>aA (λz=>q<|de z)<|cg X⟩⟩
   .haveI i:(!s.f (ao y))=an:=i;rw[o]at N;obtain rfl:=de N;rw[b' y H (λz=>bU X<|aW ig z)<|bU B]at i;exact aC i ar
   .haveI i:(!s.f (ao y))=ax:=i;cases c':s.f (ao y)with|true=>rfl|false=>rw[c']at i;exact aC i ar
def iJ(t:b3)(s:O->ba)(l:U am):U am:=l.filter λx=>a0<|t.e (ao x)=0/\s (ao x)=ax
theorem RS:iJ t B (l++[x])=iJ t B l++if t.e (ao x)=0/\B (ao x)=ax then[x]else[]:=sw ip
def aB.h(s:aB)(a:O->ba):aB:={s with f:=a}
def RL:bo:=.c (.t (.l cB (.i (.f (.c 0) 0 2)<|.n<|.c 8)<|.a 0)<|.A<|.i (.f (.c 0) 0 18)<|.n<|.c 8) (.d (.b (.i (.f (.c 0) 0 18)<|.n<|.c 8)<|.h an)<|.f<|.o (.c 2)<|.n<|.c 8) .e
inductive l3(s:aB)(c:aJ)(d t y A K z W:V)(D o:O)(k:U O)(N:U am):U V->aB->aJ->Prop|mk(l:V):l3 s c d t y A K z W D o k N [.b 0,d,.e o,t,y,A,K,.a D,l,z,W] (s.h<|cE s.f N an)<|c.i o<|.e<|bQ<|k++N.map ao
theorem l3.a(d:V)(j:l=N)(x:X=s.h (cE s.f N an))(n:f=c.i o (.e<|bQ<|k++N.map ao)):l3 s c g t y h i z W D o k l [.b 0,g,.e o,t,y,h,i,.a D,d,z,W] X f:=by subst j x n;exact .mk _
theorem Qb(G:cD n m s.d)(S:D<m)(T:∀y∈s.a D,bt n y)(P:(b0 ((s.a D).map ao)))(b':c.a o=Y (.e<|bQ k))(c':Z k<=100)(d':∀j,Q .b [.b 0,u,.e o,v,z,B,C,.a D,j,E,W] (s.h<|cE s.f (iJ s.b s.f<|s.a D) an) (c.i o<|.e<|bQ<|k++(iJ s.b s.f<|s.a D).map ao)):bs (aO a2 d) (.g (.a 8) (.i (.f (.c 0) 0 12)<|.c 7) RL) Q [.b 0,u,.e o,v,z,B,C,.a D,j,E,W] s c:=by
 refine aP I (G.a S) ⟨am,s.a D,V.a,λp=>l3 s c u v z B C E W D o k<|iJ s.b s.f p,λp L h q H=>H.casesOn λe'=>ol I<|J (aW dn.a G.d) S,?_,?_,λL h q H=>H.casesOn λj=>d' j⟩
 .refine l3.a _ I (J oP I) ?_
  .refine(?_:c=c.i o (.e<|bQ<|k++[]));rw[dI,lv b']
 .refineλp A f' L h q M H=>H.casesOn λj=>?_;have R:=T A<|J M<|dN _<|bu ..;haveI g':Z (iJ s.b s.f p)<=4:=aH (gY ..)<|pG (aH (hk T P) G.i:Z (s.a D)<=4) (M▸bI▸kP▸I:Z (s.a D)=Z p+(Z f'+1));have r:cE s.f (iJ s.b s.f p) an (ao A)=s.f (ao A):=iH λh'=>ay h' λn' i' j'=>by rw[M,dY,fN]at P;exact P.2.2 _ (fM (eq.mp i').1) _ (fM<|bu ..) j'
  haveI w:=RS (t:=s.b) (B:=s.f) (l:=p) (x:=A);clear M;generalize iJ s.b s.f p=N at*;haveI a':¬(s.b.e (ao A)=0/\s.f (ao A)=ax)->l3 s c u v z B C E W D o k (iJ s.b s.f<|p++[A]) [.b 0,u,.e o,v,z,B,C,.a D,.a A,E,W] (s.h<|cE s.f N an) (c.i o<|.e<|bQ<|k++N.map ao):=λK=>l3.a _ (bx w ((aW (N++·)<|bf K).trans<|dI _)) I I;refine bV I (G.e R.2) (λX=>bV I (G.f R.2) (λF=>?_) λF=>a' λK=>?_) λX=>⟨λk'=>aC k' ar,λe'=>a' λK=>cg X K.1⟩
  .haveI l':Z (bQ<|k++N.map ao)<bi:=by unfold bQ;rw[bv,bI,bv];exact cX (kS c' g') as
   exact(jK I (G.f R.2) bk (s.h<|aw (cE s.f N an) (ao A) an) (eP I qu _ ht (aP l' bk (l3.a _ (bx w (aW (N++·)<|a9 ⟨bU X,az r<|az (kM _) F⟩)) (az xf I) (by refine(?_:(c.i o _).i o _=_);rw[ky,dY,<-iL];exact aW (λm'=>c.i o<|.e m') qI.symm)))))
  .haveI F:(!cE s.f N an (ao A))=ax:=F;replace F:=K.2▸r▸F;exact aC F ar
structure k4(G:U (U am))(n m:O)(s:aB)(q:U am)(d:O->ba)(o:U O)(a:O->ba)(k:U O)(x:U (am×am)):Prop where
 e:∀u:O,d u=an->a u=an
 b:∀u:O,u<=n->a u=an->d u=an\/(s.b.e u=0/\s.b.b u≠0)
 c:∀u:O,u∈k↔u<=n/\a u=an/\s.b.e u=0
 g:b0 k
 j:c4 s.e.l q x<|ea<|cW n s.b (λf=>bW) λu=>a u=an/\u∉o
 p:fc s.e.l (hb n m s.e s.g) x
theorem ie:cE f l an v=an↔f v=an\/∃y∈l,ao y=v:=aE (eo<|∃y∈l,ao y=v) (λg=>J (tv g) ⟨λp=>a1 g,λp=>I⟩) λg=>J (iH g) ⟨aK,λh=>h.resolve_right g⟩
theorem k4.i(Q:n<=4)(T:bG n s.b)(l:cT n A s.b m s.a)(S:ir m s.a s.g s.e.l)(H:k4 G n m s r q o k t x){v D:O}(a':v<=n)(C:s.b.b v≠0)(b':q v=an)(c':v∉o)(p':s.b.j v=D)(E:D<m)(R:hD s.b (s.a D) v)(d':∀y∈s.a D,ao y≠v->0<s.b.e (ao y)->q (ao y)=an)(e':∀u∈o,s.b.h v<=s.b.h u):k4 G n m s r q (o++[v]) (cE k (iJ s.b k<|s.a D) an) (t++(iJ s.b k<|s.a D).map ao)<|x++[((v:am),s.g D)]:=by
 refine bb ?_;intro q';refine aM (l.d D E) λK f'=>ay (S D E) λr' L g'=>?_;have B:∀y,y∈iJ s.b k (s.a D)↔y∈s.a D/\s.b.e (ao y)=0/\k (ao y)=ax:=λy=>by unfold iJ;rw[eq,ip]
 have M:∀y∈s.a D,s.b.b (ao y)≠0:=λy h' e=>by
  by_cases w:ao y=v
  .exact C<|az w e
  .exact aA (c7.mpr e)<|J (R.2 y h' w).1 as
 refine⟨λu F=>ie.mpr<|aK<|H.e u F,λu F i'=>?_,λu=>?_,?_,?_,H.p.u ((sZ [1] [1,1] I I:ap 1 0 [.h .a .i] (.j .g .i)) (λe=>C<|J e T.z:v≠0)) L<|aK<|aF D E I⟩
 .rcases ie.mp i' with w|⟨y,w,rfl⟩
  .exact H.b u F w
  .exact a1 ⟨((B y).mp w).2.1,M y ((B y).mp w).1⟩
 .rw[cK,H.c,ie];constructor
  .rintro(⟨X,p,z⟩|w)
   .exact aP X (aK p) z
   .exact ay (bL.mp w) λy X W=>az W<|b6 ((B y).mp X) λp z j'=>aP (K y p).2 (a1<|aF y X I) z
  .rintro⟨X,p|⟨y,p,rfl⟩,z⟩
   .exact aK<|aP X p z
   .exact a1<|fM p
 .rw[fN];refine aP H.g (((EF).map _).nodup f') λs' k' t' l' e=>?_;subst e;refine ay (bL.mp l') λy X W=>?_;subst W;haveI:=((H.c _).mp k').2.1;rw[((B y).mp X).2.2]at this;exact aC this ar
 .haveI:=H.j.d Q T a' C ⟨H.e v b',c'⟩ L g' K R λj' m'=>be m';rw[cW.d]at this
  .exact this
  .intro u u' n';rw[ie,cK,b9,yl];constructor
   .rintro⟨X,⟨p,z⟩|⟨y,p,rfl⟩⟩
    .exact aP (aK p) z X
    .refine aP ?_ (λw=>aA (e' _ w)<|qM.mpr (R.2 y p X).2) X;by_cases N:0<s.b.e (ao y)
     .exact aK<|H.e _<|d' y p X N
     .by_cases P:k (ao y)=an
      .exact aK P
      .exact a1<|aF y ((B y).mpr<|aP p ((c8 [1,1] [1,0,1] I I:ap 0 1 [.f<|.b .i .a,.d .i .a] (.c .a .i)) N (T.a _ n'<|M y p).1) (by cases o':k (ao y)with|true=>exact aA o' P|false=>rfl)) I
   .rintro⟨X|⟨y,X,rfl⟩,p,z⟩
    .exact⟨z,aK ⟨X,p⟩⟩
    .exact⟨z,a1<|aF y ((B y).mp X).1 I⟩
theorem k4.a(H:k4 G n m s q f o h k x):Z k<=n+1:=by haveI:=hx H.g λu b=>ed.mpr<|mx ((H.c u).mp b).1;rwa[ec]at this
theorem B9(e:L[i]?=Y (.b o))(k:∀g,g w s c->bh C a L g s c)(h:C (f+1) [.b o,w] (bJ K) (aL s c)):bh C (.j (.c i) o (f+1)<|.b a .d) L K s c:=h9 e<|d7<|k _ h
theorem ou{C:ei}{e:a5}{K:br}{L:U V}{s:aB}{c:aJ}(a:bh C e L (λx s c=>match x with|.h b=>K (.h<|!b) s c|_=>bW) s c):bh C (.A e) L K s c:=a
inductive nY(G:U (U am))(n m:O)(s:aB)(q:U am)(x o a X c N:O)(f:aJ)(p:U O):U V->aB->aJ->Prop|mk(g:O->ba)(R:U O)(P:U (am×am))(K h l:V)(H:k4 G n m s q s.f p g R P)(j:Z P<=N+Z p):nY G n m s q x o a X c N f p [.b 0,.e x,.e o,.e a,.e X,.e c,K,h,l,.d,.d] (s.h g)<|(f.i a<|.e<|ct P).i o<|.e<|bQ R
theorem nY.a(h:nY G n m s q x o b X f N g p L i j)(e:W=j):nY G n m s q x o b X f N g p L i W:=J e h
theorem P0(M:cD n m s.d)(N':bG n s.b)(a':cT n A s.b m s.a)(O':ir m s.a s.g s.e.l)(A':y<c.d)(o':l<c.d)(p':k<c.d)(P':y≠l)(Q':y≠k)(e':l≠k)(q':c.a y=Y (.e<|aD w))(R':c.a l=Y (.e<|bQ D))(S':c.a k=Y (.e<|ct B))(T':Z B<=50)(R:∀x∈w,bt n x/\a4 s.b.b x=-1/\s.f (ao x)=an/\0<s.b.e (ao x))(B':(b0 (w.map ao)))(U':k4 G n m s E s.f [] s.f D B)(V':∀o F z q C t,o.Perm ((w.filter λx=>a0<|j9 s.b s.a s.f x).map ao)->k4 G n m s E s.f o F z q->c.d<=C->C<t.d->t.a C=Y (.e<|aD<|w.filter λx=>!a0 (j9 s.b s.a s.f x))->t.a l=Y (.e<|bQ z)->t.a k=Y (.e<|ct q)->t.a y=Y (.e<|aD w)->(∀j,j<c.d->j≠l->j≠k->t.a j=c.a j)->t.e=c.e->Z q<=Z B+5->K (.e C) (s.h F) t):aO a2 (d+3) 51 [.b 0,.e y,.e l,.e k] (bJ K)<|aL s c:=by
 have r':=hk (λx N=>(R x N).1) B';haveI C':∀x∈w,s.b.j (ao x)=-1\/∃c:O,s.b.j (ao x)=c/\c<m:=λx N=>by exact b6 (R x N) λQ u X=>aE (a'.f _ Q.2 λp=>aA (c7.mpr p) (by refine J u ?_;decide)) (λr=>aK r.1) λb'=>ch b' λc H s' X=>a1<|aF c H s'
 haveI S:=λc W'=>(a'.d c W').1;let f':=λx=>a0<|j9 s.b s.a s.f x;let g':=c.b<|.e<|aD<|w.filter λx=>!f' x;let t':=(w.filter f').map ao;let D':=g'.b<|.e<|bQ t';refine cb I I I<|dM ?_;intro an' ao';refine bN<|dW<|oc w V.a V.a (λx=>!f' x) (λL W=>eB I ar W) I (fW q') (mV r' M.i) (λX X=>ar) (λx N L W=>ou<|B9 I (λL W=>eB I ar W)<|Dl I M (R x N).1 (C' x N) S W) (λx N L W=>eB I ar W) (?_:bs _ _ _ [.b 0,.e y,.e l,.e k,.e c.d,.d,.d,.d,.d,.d,.d] s g');refine bN<|dW<|oc w V.a (λx=>V.a (ao x)) f' (λL W=>eB I ar W) I (fW<|(aG<|bj A').trans q') (mV r' M.i) (λX X=>ar) (λx N L W=>B9 I (λL W=>eB I ar W)<|Dl I M (R x N).1 (C' x N) S W) (λx N L W=>W)<|J xh (?_:bs _ _ _ [.b 0,.e y,.e l,.e k,.e c.d,.e g'.d,.d,.d,.d,.d,.d] s D');have E':∀v∈t',∃x∈w,ao x=v/\j9 s.b s.a s.f x:=λv S=>by refine ay (bL.mp S) λx Q c'=>az c' ?_;obtain⟨u,X'⟩:=eq.mp Q;exact bO x u I<|fa X'
 have u':Z t'<=4:=by rw[bv];exact aH (gY ..)<|aH r' M.i
 refine Dt M (oa aR) ar (λv S=>?_) (z9 u') λo H s'=>?_
 .exact ch (E' v S) λx Q c' X=>az c' (R x Q).1.2
 let P:=D'.b<|.e<|bQ o;have h':∀j,j<c.d->P.a j=c.a j:=((aT.b _).i<|(aT.b _).i<|aT.b _).a;let v':=λi' F'=>(P.i k<|.e<|ct F').i l<|.e<|bQ i';haveI G':=H.nodup_iff.mpr<|((EF).map _).nodup B';refine⟨O,o,λv=>V.a v,nY G n m s E y l k c.d g'.d (Z B) P,λw' H' I' t d'=>d'.casesOn λx' i' F' J' K' j' X X=>fW<|((aG<|gB<|ci o'<|aH (cO _)<|cO _).trans<|aG<|gB<|ci p'<|aH (cO _)<|cO _).trans aR,.a (.mk s.f D B _ _ _ U'<|b4 _)<|J (lv<|(h' k p').trans S')<|J (lv<|(h' l o').trans R') I,?_,?_⟩
 .refineλw' v Y' H' I' t p d'=>d'.casesOn λx' z q J' K' j' k' l'=>bb ?_;intro ap';refine RD (E' v<|H.mem_iff.mp<|J p<|dN _<|bu ..) λx Z' c' T m' aa'=>?_;subst c';refine en (R x Z') λy' ab' ac' aq'=>?_;have L':s.b.b (ao x)≠0:=λp=>aA (c7.mpr p) (by refine J ab' ?_;decide);obtain⟨n',i'⟩:T<m/\hD s.b (s.a T) (ao x):=by
   refine aE (a'.f _ y'.2 L') (λb'=>aM b' λr X=>?_) λb'=>ch b' λt M' ad' ae'=>?_
   .replace r:=m'▸r;exact⟨(aq [0,1] I:ap 2 0 [.c .g<|.c<|-1] (.e .a .b)) r,be (uR r)⟩
   .rw[m']at M';obtain rfl:=de M';exact⟨ad',ae'⟩
  refine aM (a'.d T n') λaf' ag'=>?_;haveI ah':Z w'<=4:=pG (J (fK H) u':Z o<=4) (J p<|bI▸(az kP I):Z o=Z w'+(Z Y'+1));haveI ai':=λr=>by rw[p,fN]at G';exact G'.2.2 _ r _ (bu ..) I
  haveI aj':((P.i k<|.e<|ct q).i l<|.e<|bQ z).i k (.e<|ct q++[.g [.a (ao x),.a<|s.g T]])=v' z (q++[((ao x:am),s.g T)]):=by refine(?_:_=(P.i k _).i l _);exact J (wz e')<|ky.symm▸(J qJ I)
  exact aP I (M.j y'.2) (J m'<|sE (bO (.c _) ((aG<|f8 e').trans ht:(v' z q).a k=Y (.e<|ct q)) I bk) I (M.g n') _ ((aG<|f8 e').trans ht) (by unfold ct;rw[bv];exact cX (aH l'<|kS T' ah') as) bk (J aj'<|Qb M n' af' ag' ht (aH k'.a<|(aq [1,1] I:ap 1 0 [.g .a<|.c 4] (.g (.h .a)<|.c 100)) M.i) λj'=>nY.a (.mk _ _ _ _ _ j' (k'.i M.i N' a' O' y'.2 L' ac' ai' m' n' i' aa' λak' al'=>(qR.mp<|az p s').2.2 ak' al' _<|bu ..)<|J bI<|J bI<|fP l') ky:bs _ _ _ _ _ (((P.i k<|.e<|ct q).i l<|.e<|bQ z).i k<|.e<|ct q++[.g [.a (ao x),.a<|s.g T]])):lA 7 (.a<|s.b.j (ao x)) _ _)
 .refineλH' I' t d'=>d'.casesOn λx' z q J' K' j' k' l'=>?_;have z':∀j,j≠l->j≠k->(v' z q).a j=P.a j:=λj Q u=>(aG Q).trans<|aG u;exact V' o x' z q c.d _ H k' (b4 _) (ci (b7 _)<|aH (cO _)<|cO _) ((z' _ (gB o')<|gB p').trans<|(aG<|bj<|er<|b7 _).trans<|(aG<|bj<|b7 _).trans aR) ht ((aG<|f8 e').trans ht) ((z' y P' Q').trans<|(h' y A').trans q') (λj am' Q u=>(z' j Q u).trans<|h' j am') I<|(aq [1,1,1] I:ap 3 0 [.g .a<|.c 4,.g .b<|.e .f .a] (.g .b<|.e .f<|.c 5)) (J (fK H) u':Z o<=4) l'
end
end
section
variable{d n m:O}{s:aB}{c:aJ}{K:br}{G:U (U am)}{A:U am}{t:b3}
mutual
structure j7(n:O)(t:b3)(s:O->ba)(R:U am)(T v e:U O)(B:am):Prop where
 d:∀u:O,u<=n->s u=an->t.b u≠0
 c:∀x∈R,bt n x/\a4 t.b x=-1/\s (ao x)=an/\t.e (ao x)≠0/\t.e (ao x)≠Z t.f
 g:b0 (R.map ao)
 k:∀u:O,u<=n->s u=an->t.e u≠0->t.e u≠Z t.f->∃x∈R,ao x=u
 h:∀u:O,u∈T↔u<=n/\s u=an/\t.e u=0
 j:b0 T
 b:∀u∈v,u<=n/\s u=an/\t.e u=Z t.f/\B<t.h u
 l:b0 v
 y:b0 e
 a:∀u:O,u∈e↔u<=n/\s u=an/\t.e u=Z t.f/\u∉v
 i:∀u∈e,t.h u<=B
theorem kv{l:U am}(h:(b0 (l.map ao)))(f:am->ba):b0 ((l.filter f).map ao):=((EF).map _).nodup h
theorem j7.e{s:O->ba}{R:U am}{T v m:U O}{B:am}(L:0<Z t.f)(M:j7 n t s R T v m B){E:O}{l:U am}(p:∀r∈l,bt n r)(q:(b0 (l.map ao)))(N:∀r∈l,ao r≠E->a4 t.b r=-1/\t.h (ao r)<=B):j7 n t (cE s (cq s E l) an) (R++iE t (cq s E l)) (T++d9 t (cq s E l)) v (m++(hu t<|cq s E l).map ao) B:=by
 revert L M;revert n t s R T v m B E l;refine@je _<|eZ @(letI n:=_;letI t:=_;letI s:=_;letI R:=_;letI T:=_;letI v:=_;letI m:=_;letI B:=_;letI E:=_;letI l:=_;(e2 ?_:eD _ _ _ _ _ n t s R T v m B E l));intros;have D:b0 ((cq s E l).map ao):=kv q _;have h:=λr y=>b6 (((λr=>by unfold cq;rw[eq,ip]:∀r,r∈cq s E l↔r∈l/\ao r≠E/\s (ao r)=ax) r).mp y) λA i Q=>bV (p r A) (N r A i).1 Q (N r A i).2;have F:∀r,r∈iE t (cq s E l)↔r∈cq s E l/\t.e (ao r)≠0/\t.e (ao r)≠Z t.f:=λr=>by unfold iE;rw[eq,ip]
 have z:∀r,r∈hu t (cq s E l)↔r∈cq s E l/\t.e (ao r)≠0/\t.e (ao r)=Z t.f:=λr=>by unfold hu;rw[eq,ip]
 have P:∀u,u∈d9 t (cq s E l)↔∃r∈cq s E l,t.e (ao r)=0/\ao r=u:=λu=>by unfold d9;rw[bL];exact⟨λG=>ay G λr a b=>aM (eq.mp a) λa' b'=>bO r a' (fa b') b,λG=>ch G λr a b f=>aF r (eq.mpr ⟨a,fC b⟩) f⟩
 haveI j:∀u,cE s (cq s E l) an u=an↔s u=an\/∃r∈cq s E l,ao r=u:=λu=>ie;have C:∀{u:O}{r:am},r∈cq s E l->s u=an->u=ao r->bW:=λ{u r}A i Q=>by replace i:=((h r A).2.2.1)▸Q▸i;exact aC i ar
 refine⟨λu k H=>?_,λx c'=>?_,?_,λu k H A i=>?_,λu=>?_,?_,λu k=>b6 (M.b u k) λa b c=>aP a ((j u).mpr<|aK b) c,M.l,?_,λu=>?_,λu k=>?_⟩
 .rcases(j u).mp H with g|⟨r,g,rfl⟩
  .exact M.d u k g
  .exactλf=>aA (c7.mpr f)<|J (h r g).2.1 as
 .rcases cK.mp c' with g|g
  .exact en (M.c x g) λa b c d=>bV a b ((j _).mpr<|aK c) d
  .exact b6 ((F x).mp g) λa b c=>fg (h x a).1 (h x a).2.1 ((j _).mpr<|a1<|aF x a I) b c
 .rw[dY,fN];refine aP M.g (kv D _) λa o b w f=>ay (bL.mp o) λx X W=>?_;subst W;refine ay (bL.mp w) λr S W=>?_;subst W;exact C ((F r).mp S).1 (M.c x X).2.2.1 f
 .rcases(j u).mp H with g|⟨r,g,rfl⟩
  .exact ay (M.k u k g A i) λx a b=>aF x (ii _ a) b
  .exact aF r (dN _<|(F r).mpr<|aP g A i) I
 .rw[cK,M.h,j,P];constructor
  .rintro(⟨a,b,c⟩|⟨r,a,b,rfl⟩)
   .exact aP a (aK b) c
   .exact aP (h r a).1.2 (a1<|aF r a I) b
  .rintro⟨a,b|⟨r,b,rfl⟩,c⟩
   .exact aK<|aP a b c
   .exact a1<|bO r b c I
 .rw[fN];refine aP M.j (kv D _) λa o b w f=>ch ((P b).mp w) λr X S d'=>?_;subst d';exact C X ((M.h a).mp o).2.1 f
 .rw[fN];refine aP M.y (kv D _) λa o b w f=>ay (bL.mp w) λr X W=>?_;subst W;exact C ((z r).mp X).1 ((M.a a).mp o).2.1 f
 .rw[cK,M.a,j];constructor
  .rintro(⟨a,b,c⟩|g)
   .exact aP a (aK b) c
   .exact ay (bL.mp g) λr a K=>az K<|b6 ((z r).mp a) λb c f=>bV (h r b).1.2 (a1<|aF r b I) f λg=>C b (M.b _ g).2.1 I
  .rintro⟨a,b|⟨r,b,rfl⟩,c,f⟩
   .exact aK<|bV a b c f
   .exact a1<|bL.mpr<|aF r ((z r).mpr<|aP b (J c<|yR L) c) I
 .rcases cK.mp k with g|g
  .exact M.i u g
  .exact ay (bL.mp g) λr a K=>az K (h r ((z r).mp a).1).2.2.2
theorem j7.f(X:bG n t)(M:j7 n t q R T r p B)(P:v∈p)(A:t.h v=B):j7 n t q R T (r++[v]) (p.erase v)<|B-1:=by
 refine en ((M.a v).mp P) λL N F G=>?_;refine⟨M.d,M.c,M.g,M.k,M.h,M.j,λu m=>?_,fN.mpr<|aP M.l (dO.mpr ⟨fO,fm⟩) λh H l K e=>G<|(b9.mp K)▸e▸H,M.y.erase v,λu=>?_,λu m=>?_⟩
 .rcases cK.mp m with g|g
  .exact en (M.b u g) λh l c e=>bV h l c<|(aq [1,1] I:ap 0 2 [.b .a .b] (.b (.d .a .k) .b)) e
  .exact J (b9.mp g)<|bV L N F<|(aq [1,0,1] I:ap 0 2 [.c .a .b] (.b (.d .b .k) .a)) A
 .rw[M.y.mem_erase_iff,M.a,cK,b9,yl];exact⟨λo=>tz o λh l c e s=>fg l c e s h,λo=>tz o λl c e s h=>fg h l c e s⟩
 .obtain⟨Q,C⟩:=(M.y.mem_erase_iff).mp m;haveI:=M.i u C;refine Eo<|tG.mpr ⟨this,λe=>b6 ((M.a u).mp C) λD S W=>cF (X.c u D<|M.d u D S) λi x E w=>?_⟩;subst w;refine cF (X.c v L<|M.d v L N) λj y z w=>?_;subst w;rw[(X.s i x E).2.2]at e;replace A:=((X.s j y z).2.2)▸A;haveI:i=j:=yS e A;subst this;rw[E]at z;exact Q<|J (bE z) I
theorem j7.o(X:bG n t)(w:0<Z t.f)(M:j7 n t q R T v p B)(y:p≠[]){j:O}(f:t.a[j]?=Y x)(z:j<=B)(A:q (ao x)=an)(C:∀u∈p,t.h u<=j):ao x∈p:=by
 refine b6 (X.s j x f) λh D k=>(M.a _).mpr<|bV h.2 A ?_ λe=>(aq [1,1,0,1] I:ap 1 2 [.d .g .a,.c .b .g,.b .a .b] .i) z k (M.b _ e).2.2.2
 .refine bH (So p y) λu l=>en ((M.a u).mp l) λm E F D=>?_;haveI H:=o4 w mz;haveI r:=X.b u m (M.d u m E) _ _<|cl H;haveI W:=X.b _ h.2 (X.h f) _ _<|cl H;rw[F]at r;rw[k]at W;have s:¬t.e (ao x)<=((Z t.f-1:O):am):=λe=>(λe=>uI H<|r.mp e)<|(aq [1,1,1] I:ap 1 2 [.d .a .g,.b .g .b] (.b .a .b)) (C u l)<|W.mpr e;exact zT (X.a _ h.2<|X.h f).2 s<|cy<|zS (X.a _ h.2<|X.h f).2 s
structure fr(c u:aJ)(R:U am)(T:U O)(P:U (am×am))(D:U O):Prop where
 d:c.d+4<=u.d
 f:∀j,j<c.d->u.a j=c.a j
 a:u.e=c.e
 p:u.a c.d=Y (.e<|aD R)
 b:u.a (c.d+1)=Y (.e<|bQ T)
 e:u.a (c.d+2)=Y (.e<|ct P)
 n:u.a (c.d+3)=Y (.e<|bQ D)
end
section
variable{u:aJ}{R:U am}{T:U O}{P:U (am×am)}{D:U O}
mutual
theorem fr.i(h:fr c u R T P D)(E:U am):fr c (u.i c.d<|.e<|aD E) E T P D:=⟨h.d,λj s=>(aG<|bj s).trans<|h.f j s,h.a,aR,(aG<|@FU _).trans h.b,(aG<|@FV _).trans h.e,(aG<|@FW _).trans h.n⟩
theorem fr.g(h:fr c u R T P D)(a:U O):fr c (u.i (c.d+1)<|.e<|bQ a) R a P D:=⟨h.d,λj s=>(aG (by exact yT s)).trans<|h.f j s,h.a,(aG (by exact@FX _)).trans h.p,aR,(aG (by exact@FY _)).trans h.e,(aG (by exact@uJ _)).trans h.n⟩
theorem fr.h(a:fr c u R T P D)(b:U (am×am)):fr c (u.i (c.d+2)<|.e<|ct b) R T b D:=⟨a.d,λj s=>(aG (by exact r1 s)).trans<|a.f j s,a.a,(aG (by exact@uK _)).trans a.p,(aG (by exact@yU _)).trans a.b,aR,(aG (by exact@F0 _)).trans a.n⟩
theorem fr.j(d:fr c u R T P D)(z:U O):fr c (u.i (c.d+3)<|.e<|bQ z) R T P z:=⟨d.d,λf s=>(aG (by exact(aq [0,1,1] I:ap 2 0 [.e .a .b] (.h .a<|.e .b<|.c 3)) s)).trans<|d.f f s,d.a,(aG (by exact@F1 _)).trans d.p,(aG (by exact@F2 _)).trans d.b,(aG (by exact@F3 _)).trans d.e,aR⟩
end
end
mutual
structure hP(G:U (U am))(A:U am)(n m q:O)(s:aB)(c:U am)(b:O->ba)(h:ej)(R:U am)(T:U O)(P:U (am×am))(v e:U O)(B:am):Prop where
 a:j7 n s.b b R T v e B
 k:cZ n h
 d:g9 n q h b
 l:∀u,u<=n->(0<=h.c u↔0<=s.c.c u)
 j:c4 s.e.l c P<|ea<|cW n s.b (λg=>bW) λu=>b u=an/\u∉v
 p:fc s.e.l (hb n m s.e s.g) P
 f:Z P=Z v
theorem hP.e(W:hP G A n m q s y z h w o B v r C):Z w<=n/\Z o<=n+1/\Z v<=n+1/\Z r<=n+1:=by
 haveI b:∀l:U O,(b0 l)->(∀u∈l,u<=n)->Z l<=n+1:=λl c i=>by haveI:=hx c λu a=>ed.mpr<|mx<|i u a;rwa[ec]at this
 exact bV (hk (λx M=>(W.a.c x M).1) W.a.g) (b o W.a.j λu a=>((W.a.h u).mp a).1) (b v W.a.l λu a=>(W.a.b u a).1)<|b r W.a.y λu a=>((W.a.a u).mp a).1
theorem hP.g(W:hP G A n m q s w x h y z B C r E)(d:v<=E)(f:∀o∈r,s.b.h o<=v):hP G A n m q s w x h y z B C r v:={W with a:={W.a with b:=λo k=>en (W.a.b o k) λl p c e=>bV l p c<|R8 d e,i:=f}}
theorem hP.b(X:bG n s.b)(k:cT n A s.b m s.a)(W:hP G A n m q s r z h C E F H o B)(u:v∈o)(K:s.b.h v=B)(l:2<=Z o):(0<B)/\∃c:O,s.b.j v=c/\c<m/\hD s.b (s.a c) v:=by
 obtain⟨w,N,x⟩:∃w∈o,w≠v:=(jl λg=>aA (aH l<|hx W.a.y λy P=>b9.mpr<|jl λq=>g<|aF y P q) (by decide:¬2<=1));refine en ((W.a.a v).mp u) λL R h' i'=>en ((W.a.a w).mp N) λt T a' j'=>?_;have Q:=W.a.d v L R;have D:=W.a.d w t T;have S:s.b.h w<s.b.h v:=by refine tG.mpr ⟨J K<|W.a.i w N,λe=>x<|cF (X.c w t D) λb' c' p M=>?_⟩;subst M;refine cF (X.c v L Q) λd' e' l M=>?_;subst M;rw[(X.s b' c' p).2.2,(X.s d' e' l).2.2]at e;obtain rfl:=de e;rw[p]at l;exact az (bE l) I
 refine⟨(aq [1,1,0,1,1] I:ap 0 3 [.c .a .b,.b .f .a,.d .i .f] (.b .i .b)) K S (X.e t D).1,hJ (k.f v L Q) λf'=>aM f' λk' g=>?_⟩;obtain⟨g',j⟩:=kR.mp g;haveI p:=(X.b w t D g' _ j).mp S;rw[a']at p;exact yV p<|dB j
theorem hP.i(T:n<=4)(t:bG n s.b)(a':0<Z s.b.f)(b':cT n A s.b m s.a)(c':ir m s.a s.g s.e.l)(W:hP G A n m q s z o h C E F H x B){v D:O}(M:v∈x)(K:s.b.h v=B)(n':s.b.j v=D)(L:D<m)(k:hD s.b (s.a D) v)(d':cZ n w)(e':g9 n q w (cE o (cq o v<|s.a D) an))(f':∀r,r<=n->(0<=w.c r↔0<=h.c r)):hP G A n m q s z (cE o (cq o v<|s.a D) an) w (C++iE s.b (cq o v<|s.a D)) (E++d9 s.b (cq o v<|s.a D)) (F++[((v:am),s.g D)]) (H++[v]) ((x++(hu s.b<|cq o v<|s.a D).map ao).erase v)<|B-1:=by
 refine bb ?_;intro o';refine aM (b'.d D L) λN g'=>ay (c' D L) λp' Q h'=>en ((W.a.a v).mp M) λe g q' i'=>have l:=W.a.d v e g;haveI j':=W.a.e a' N g' λy u P=>⟨(k.2 y u P).1,(aq [1,1,0,1] I:ap 0 3 [.c .a .b,.b .f .a] (.d .f .b)) K (k.2 y u P).2⟩;⟨j'.f t (ii _ M) K,d',e',λr R=>(f' r R).trans<|W.l r R,?_,W.p.u (λk'=>l<|J (de k') t.z) Q<|aK<|aF D L I,bI.symm▸(J bI<|az W.f I)⟩;haveI:=W.j.d T t e l ⟨g,i'⟩ Q h' N k λr' h=>be h;rw[cW.d]at this
 .exact this
 .intro r s' t';rw[ie,cK,b9,yl];haveI S:∀y,y∈cq o v (s.a D)↔y∈s.a D/\ao y≠v/\o (ao y)=ax:=λy=>by unfold cq;rw[eq,ip]
  constructor
  .rintro⟨X,⟨j,p⟩|⟨y,j,rfl⟩⟩
   .exact aP (aK j) p X
   .refine aP ?_ (λl'=>(aq [1,0,1,1] I:ap 0 3 [.c .a .b,.b .b .f,.b .f .a] .i) K (W.a.b _ l').2.2.2 (k.2 y j X).2) X
    .cases m':o (ao y)with|true=>exact aK I|false=>exact a1 ⟨y,(S y).mpr ⟨j,X,m'⟩,I⟩
  .rintro⟨X|⟨y,X,rfl⟩,j,p⟩
   .exact⟨p,aK ⟨X,j⟩⟩
   .exact⟨p,a1 ⟨y,((S y).mp X).1,I⟩⟩
def GK:bo:=.h (.h an)<|.d (.h (.A<|.i (.f (.c 0) 0 18)<|.n<|.i (.f (.c 0) 0 8)<|.c 7)<|.b (.a 7)<|.m dK (.c 7)<|.a 1)<|.d (.b (.a 8)<|.i (.f (.c 0) 0 8)<|.c 7)<|.d (.c (.l cB (.c 6)<|.a 1) .j .e)<|.d (.b (.a 9)<|.i (.f (.c 0) 0 3)<|.n<|.c 8)<|.d (.f<|.o (.c 4)<|.g<|.b (.n<|.c 8)<|.b (.i (.f (.c 0) 0 13)<|.c 9) .d)<|.d (.f<|.o (.c 5)<|.n<|.c 8)<|.d (.f<|.j (.c 0) 0 53<|.b (.c 9) .d)<|.d (.b (.a 6)<|.m cY (.m dK (.c 6)<|.a 1)<|.j (.c 0) 0 48<|.b (.c 9)<|.b (.n<|.c 8)<|.b (.c 2)<|.b (.c 3) .d)<|.b (.a 7)<|.m dK (.c 7)<|.a 1
def pI(c:aJ)(d:V)(K g:am)(l z W M f:V):U V:=[.b 0,d,.e c.d,.e<|c.d+1,.e<|c.d+2,.e<|c.d+3,.a K,.a g,l,z,W,M,f]
inductive uj(G:U (U am))(A:U am)(n m q:O)(s:aB)(b:U am)(c:aJ)(x1 x10 x11 x12:V):O->U V->aB->aJ->Prop|mk(d:O->ba)(h:ej)(R:U am)(T:U O)(P:U (am×am))(v a:U O)(B:O)(l z:V)(u:aJ)(W:hP G A n m q s b d h R T P v a B)(e:a≠[])(f:B<Z s.b.a)(i:fr c u R T P v):uj G A n m q s b c x1 x10 x11 x12 B (pI c x1 (Z a) B l z x10 x11 x12) (s.z d h) u
inductive uk(s:aB)(c:aJ)(x1 x8 x9 x10 x11 x12:V)(a:U O)(N:aB)(u:aJ)(B:O):O->U V->aB->aJ->Prop|mk(j:O)(d:∀b∈a,s.b.h b<=j)(W:j<=B):uk s c x1 x8 x9 x10 x11 x12 a N u B j (pI c x1 (Z a) j x8 x9 x10 x11 x12) N u
set_option tactic.hygienic true in theorem Pz{C':eX}{i':O}{r':U am}{p:O->ba}{D':ej}{R:U am}{T:U O}{P:U (am×am)}{z t:U O}{B:O}{u:aJ}{K j' F M N y:V}(L:cD n m s.d)(X:bG n s.b)(E':0<Z s.b.f)(O':Z s.b.f<=100)(t':cT n A s.b m s.a)(P':ir m s.a s.g s.e.l)(W:hP G A n m i' s r' p D' R T P z t B)(e':t≠[])(u':B<Z s.b.a)(Q:fr c u R T P z)(Q':∀p l R T P z(x:am)B u F,hP G A n m i' s r' p l R T P z [ao x] B->(∃o:O,s.b.a[o]?=Y x)->fr c u R T P z->C' .b (pI c K 1 B (.a x) F M N y) (s.z p l) u):bs (aO a2<|d+5) GK C' (pI c K (Z t) B j' F M N y) (s.z p D') u:=by
 refine l0.mk (uj G A n m i' s r' c K M N y) _ (.mk _ _ _ _ _ _ _ _ _ _ _ W e' u' Q) ?_;intro F' R' ac' u v';induction v' with|mk p l R T P z t B j' F u W e' u' Q=>?_;have S:=L.i;refine⟨λw'=>?_,λv=>aC v ar⟩;refine l0.mk (uk s c K j' F M N y t (s.z p l) u B) _ (.mk _ W.a.i<|b4 _) ?_;intro F' R' ad' ae' v';induction v' with|mk a' C=>?_;revert F';intro r a' C;haveI k':=cX C u';obtain⟨x,f'⟩:∃x,s.b.a[r]?=Y x:=⟨_,cl k'⟩;haveI l':=fV f';refine b6 (X.s r x f') λG' w' H'=>?_;refine fh I (eG k'<|mV X.k S) I (J l'<|L.f G'.2) (λv=>?_) λv=>?_
 .have v:(!p (ao (bS s.b.a r 0)))=an:=v;rw[l']at v;have x':p (ao x)=ax:=by cases y':p (ao x)with|true=>rw[y']at v;exact aC v ar|false=>rfl
  have I':=λw H=>by refine b6 ((W.a.a w).mp H) λg' b' w'=>?_;refine Eo<|tG.mpr ⟨a' w H,λE=>?_⟩;refine bb ?_;intro J';refine cF (X.c w g'<|W.a.d w g' b') λo K' z' S'=>?_;subst S';rw[(X.s o K' z').2.2]at E;obtain rfl:=de E;rw[f']at z';replace b':=x'▸(bE z').symm▸b';exact aC b' ar
  refine bb ?_;intro J';refine bH (So t e') λw H=>?_;refine b6 ((W.a.a w).mp H) λg' b' w'=>?_;have A':(r:am)-1=(r-1:O):=n5<|cy<|(aq [1,1,1] I:ap 1 1 [.d .i .a,.d .a<|.d .g .k] (.g .k .a)) (X.e g'<|W.a.d w g' b').1<|I' w H;refine aF (r-1) ((aq [1,0,1] I:ap 2 0 [.c (.d .g .k) .j] (.e .b .a)) A') ?_;haveI:=uk.mk (s:=s) (c:=c) (x1:=K) (x8:=j') (x9:=F) (x10:=M) (x11:=N) (x12:=y) (N:=s.z p l) (u:=u) (r-1) (λw H=>az A'<|I' w H) (by exact(aq [1,1,1] I:ap 3 0 [.g .a .b,.g .f .a] (.g .f .b)) C<|gC _ _:r-1<=B);replace this:=A'.symm▸this;exact this
 .have v:(!p (ao (bS s.b.a r 0)))=ax:=v;rw[l']at v;haveI x':p (ao x)=an:=by cases y':p (ao x)with|true=>rfl|false=>rw[y']at v;exact aC v ar
  have m':=W.a.o X E' e' f' (eb.mpr C) x' a';haveI n':=W.e;refine aP I (eG k'<|mV X.k S) ?_;refine(?_:lA 8 (.a<|bS s.b.a r 0) _ _);refine J l' ?_;refine⟨λh'=>?_,λh'=>?_⟩
  .refine bH (Sw.mp ((dR [1,1] [1,0,1] I I:ap 1 0 [.c .g .k] (.a .a .k)) (bU h':(Z t:am)=1):Z t=1)) λK' T'=>?_;subst T';obtain rfl:=b9.mp m';exact Q' p l R T P z x r u F (W.g (eb.mpr C) a') ⟨r,f'⟩ Q
  .haveI h':=cg h';haveI U':Z t≠0:=λE=>e'<|iN.mp E;have o':2<=Z t:=lK (EP U') λE=>h'<|aW ig E.symm;refine bb ?_;intro J';refine Ec ((W.g (eb.mpr C) a').b X t' m' H' o') λB' D L' p' V'=>?_;refine aM (t'.d D p') λW' X'=>?_;refine aP I (L.j G'.2) ?_;refine(?_:lA 9 (.a<|s.b.j (ao x)) _ _);refine J L' ?_;haveI q':=Q.h<|P++[((ao x:am),s.g D)];rw[qJ]at q';haveI d':=q'.j<|z++[ao x];rw[qI]at d';refine sE (bO (.c _) Q.e I bk) I (L.g p') _ Q.e (by unfold ct;rw[bv,W.f];exact cX n'.2.2.1<|cX (lJ S _) as) bk ?_;refine kp (bO (.c _) q'.n I bk) _ q'.n (by unfold bQ;rw[bv];exact cX n'.2.2.1<|cX (lJ S _) as) bk<|wY ar ?_;refine Dq (s:=s.z p l) (q:=i') (cc:=D) (sk:=ao x) I I L W.k W.d p' W' X' O' (bj<|b7 _) (ci (j1 as) d'.d) (ci (kT as _) d'.d) d'.p d'.b (vc S n'.1) (uL S n'.2.1) λY' Z' aa' ab'=>?_;haveI M':=(W.g (eb.mpr C) a').i L.i X E' t' P' m' H' L' p' V' Z' aa' ab';have N':Z ((t++(hu s.b<|cq p (ao x)<|s.a D).map ao).erase (ao x))=Z t+Z (hu s.b<|cq p (ao x)<|s.a D)-1:=by rw[List.length_erase_of_mem<|ii _ m',bI,bv]
   rw[show(r:am)-1=(r-1:O)from n5<|cy<|pF B']at M';refine aF (r-1) ((aq [1,1,0,1] I:ap 3 0 [.g .a .b,.c (.d .g .k) .s] (.e .f .b)) C (by exact n5<|cy<|pF B':(r:Int)-1=(r-1:Nat))) ?_;haveI:=uj.mk (x1:=K) (x10:=M) (x11:=N) (x12:=y) _ Y' _ _ _ _ _ (r-1) (.a x) (.a D) _ M' (λE=>by haveI:=aW Z E;rw[N']at this;simp at this;exact(aq [1,1,0,0,1] I:ap 3 0 [.g (.c 2) .a,.a .b .i,.a (.h .b)<|.e .a .f] .i) o' this<|cy<|zV o') ((aq [1,1,1] I:ap 3 0 [.e .a .b,.g .f .a] (.e .f .b)) k'<|gC _ _)<|(d'.i<|R++iE s.b (cq p (ao x)<|s.a D)).g<|T++d9 s.b (cq p (ao x)<|s.a D);replace this:=(by exact(c8 [1,1] [1,0,1] I I:ap 3 0 [.a (.h .a)<|.e .b .f] (.c .g<|.e (.d .j .k) .s))<|cy<|zV o':((t.length+(hu s.b<|cq p x.natAbs<|s.a D).length-1:Nat):Int)=(t.length:Int)-1+(hu s.b<|cq p x.natAbs<|s.a D).length)▸(by exact n5<|cy<|pF B':(r:Int)-1=(r-1:Nat)).symm▸N'▸this;exact this
def iI{α:Type}(f:O->α)(l:U O)(d:α)(v:O):α:=if v∈l then d else f v
theorem Rq{f:O->α}{x:α}:iI f [] x=f:=jy λv=>bf fO
theorem Rr{f:O->α}{x:α}:aw (iI f l x) v x=iI f (l++[v]) x:=by
 funext u;by_cases e:u=v
 .exact J e<|J aR (a9<|dN _<|gA _).symm
 .refine J (aG e) ?_;unfold iI;by_cases g:u∈l
  .exact J (a9 g)<|J (a9<|ii _ g) I
  .exact J (bf g)<|J (bf λw=>aE (cK.mp w) g λw=>e<|b9.mp w) I
theorem xe:iI f l ax v=an↔f v=an/\v∉l:=by
 unfold iI;by_cases g:v∈l
 .exact J (a9 g) ⟨λh=>aC h ar,λh=>aA g h.2⟩
 .exact J (bf g) ⟨λh=>⟨h,g⟩,λh=>h.1⟩
theorem Of(h:e6 i (Z L)=an)(a:v≠.d)(K:P (L.set i v)):lA i v L P:=by unfold lA;refine h.symm▸?_;cases v<;>first|exact K|exact aA I a
inductive pv(s:aB)(a:aJ)(F:V->U V)(p:U O):U V->aB->aJ->Prop|mk(x:V):pv s a F p (F x) (s.h<|iI s.f p ax) a
theorem pv.a(x:V)(h:X=s.h (iI s.f p ax)):pv s b F p (F x) X b:=J h<|.mk x
theorem wZ{F:V->U V}(u:cD n m s.d)(P:∀v∈vs,v<=n)(w:∀x,(F x)[0]?=Y (.b 0))(M:∀x,(F x)[j]?=Y x)(A:∀x y,(F x).set j y=F y)(z:∀x,e6 j (Z (F x))=an)(B:∀l,l (.e k) s c2->bh (aO a2 d) o (F x) l s c)(C:c2.a k=Y (.e<|bQ vs))(q:∀x,Q .b (F x) (s.h<|iI s.f vs ax) c2):bs (aO a2 d) (.g (.a j) o<|.b (.i (.f (.c 0) 0 18)<|.c j)<|.h ax) Q (F x) s c:=by
 refine B _<|.mk _ vs (λv=>V.a v) (pv s c2 F) (λp L X t q=>q.casesOn λx=>fW C) (.a x<|J Rq I) ?_ λL X t D=>D.casesOn q
 .refineλp v r L X t E G=>G.casesOn λx=>Of (z x) ar ?_;rw[A];exact gt (w _) ar<|gt (M _) ar<|jK I (u.f<|P v<|J E<|dN _<|bu ..) bk (s.h<|aw (iI s.f p ax) v ax) ⟨I,pv.a (.a v)<|az Rr I⟩
theorem K2(f:L[i]?=Y (.a x))(h:K (.e c.d) s (c.b<|.e [.a (ao x)])):bh C (.e<|.b (.n<|.c i) .d) L K s c:=gt f ar h
theorem K4(f:L[i]?=Y (.a x))(h:K (.e c.d) s (c.b<|.e [.a<|-x])):bh C (.e<|.b (.v<|.c i) .d) L K s c:=(gt f ar h:k2 L i (λg=>mi (λy s c=>K (.e c.d) s<|c.b<|.e [.a<|-y]) g s c))
theorem g9.f(B:g9 n q h g)(M:q<100):g9 n (q+1) h i:=⟨M,⟨B.a.1,ey B.a.2 (uy q).2⟩,λu a=>ey (B.c u a)<|Sb (ey (R3 Bk _)<|Int.le_add_of_nonneg_right J3) as⟩
def aB.F(s:aB)(p:dD)(a:O->ba)(h:ej):aB:={s with e:=p,f:=a,c:=h}
structure lQ(G:U (U am))(n m q:O)(s:aB)(z:U am)(E:dD)(w:O->ba)(i:ej)(a:am)(r:U am)(x:U (am×am)):Prop where
 c:dp G n m s.b s.a s.g E
 t:ee s.e E
 h:∀u:O,u<=n->w u=ax
 k:cZ n i
 d:g9 n (q+1) i w
 o:i.b<=i2 q
 l:∀u,u<=n->(0<=i.c u↔0<=s.c.c u)
 e:∀y∈a::r,bt n y/\a4 s.b.b y=-1
 g:b0 ((a::r).map ao)
 v:s.b.e (ao a)=Z s.b.f
 b:∀y∈r,0<s.b.e (ao y)/\s.b.e (ao y)<Z s.b.f
 j:c4 E.l z x<|ea<|cW n s.b (λA=>bW) λu=>∃y∈a::r,ao y=u
 p:fc E.l (hb n m E s.g) x
 f:Z x<=60
theorem PA{p' N:O}{j':U am}{E':V}(ba':E'=.a N)(c':cD n m s.d)(m':bG n s.b)(S':cT n A s.b m s.a)(F':dp G n m s.b s.a s.g s.e)(bb':cZ n s.c)(bc':g9 n p' s.c s.f)(bd':p'<100)(ae':∀u,u<=n->s.f u=ax)(be':Z s.e.l<=700)(av':Z s.b.f<=100)(G':0<Z s.b.f)(aw':N<m)(T':∀y∈s.a N,a4 s.b.b y=-1)(ax':∃y∈s.a N,s.b.e (ao y)=Z s.b.f)(bf':cL s.e.l (s.g N) j')(bg':∀x,x∈j'↔x∈s.a N)(q:∀E Q S C r D X M L,lQ G n m p' s j' E Q S C r D->c.d<=X->X<L.d->c.d<=M->M<L.d->L.a X=Y (.e<|aD<|C::r)->L.a M=Y (.e<|ct D)->aT c L->fb c L->K (.g [.e X,.e M]) (s.F E Q S) L):aO a2 (d+9) 49 [.b 0,E'] (bJ K)<|aL s c:=by
 revert d n m s c K G A p' N j' E';refine@hs _<|eZ @(letI d:=_;letI n:=_;letI m:=_;letI s:=_;letI c:=_;letI K:=_;letI G:=_;letI A:=_;letI p':=_;letI N:=_;letI j':=_;letI E':=_;(e2 ?_:eD _ _ _ d n m s c K G A p' N j' E'));intros;refine J ba'<|aM (S'.d N aw') λq' ay'=>?_;have az':∀y∈s.a N,s.b.b (ao y)≠0:=λy B P=>aA (c7.mpr P) (by refine J (T' y B) ?_;decide);haveI bh':∀y∈s.a N,s.b.h (ao y)<=(Z s.b.a-1:O):=λy B=>(aq [1,1,1] I:ap 2 1 [.b .a .g,.g .a<|.h .b] (.d .a .j)) (m'.e (q' y B).2<|az' y B).2<|xJ<|b4 _;haveI aA':0<Z s.b.a:=by refine ay ax' λy B t=>?_;haveI:=m'.e (q' y B).2<|az' y B;exact(aq [1,1,1] I:ap 1 1 [.d .i .a,.b .a .g] (.e .i .a)) this.1 this.2
 let aB':=(((c.b<|.e []).b<|.e []).b<|.e []).b<|.e [];have H':fr c aB' [] [] [] []:=⟨b4 _,λw z=>(aG<|bj<|mw 3 z).trans<|(aG<|bj<|mw 2 z).trans<|(aG<|bj<|mw 1 z).trans<|aG<|bj z,I,(aG<|bj<|j1 (k:=3) as).trans<|(aG<|bj<|j1 (k:=2) as).trans<|(aG<|bj<|b7 _).trans aR,(aG<|bj<|kT (by decide:1<3) c.d).trans<|(aG<|bj<|kT (show 1<2 by decide) c.d).trans aR,(aG<|bj<|kT (by decide:2<3) c.d).trans aR,aR⟩;haveI bi':j7 n s.b s.f [] [] [] [] (Z s.b.a-1:O):=by
  have U':∀{u:O}{V':Prop},u<=n->s.f u=an->V':=λ{u V'}d' q=>by rw[ae' u d']at q;exact aC q ar
  exact⟨λu d' q=>U' d' q,λt q=>aC q ar,fm,λu d' q=>U' d' q,λu=>⟨λq=>aC q ar,λq=>U' q.1 q.2.1⟩,fm,λt q=>aC q ar,fm,fm,λu=>⟨λq=>aC q ar,λq=>U' q.1 q.2.1⟩,λt q=>aC q ar⟩
 let r':=cq s.f 0<|s.a N;have af':∀y,y∈r'↔y∈s.a N:=λy=>by unfold r' cq;rw[eq,ip];exact⟨λo=>o.1,λo=>aP o (λP=>(q' y o).1<|Et.mp P)<|ae' _ (q' y o).2⟩
 let ag':=cE s.f r' an;have aC':∀u:O,u<=n->(ag' u=an↔∃y∈s.a N,ao y=u):=λu d'=>ie.trans ⟨λo=>aE o (λo=>by rw[ae' u d']at o;exact aC o ar) λf'=>ay f' λy C n'=>aF y ((af' y).mp C) n',λf'=>ay f' λy C n'=>a1<|aF y ((af' y).mpr C) n'⟩;haveI bj':j'=ea (cW n s.b (λt=>bW) λu=>ag' u=an/\u∉[]):=by
  refine lz (cW.e c'.i λt q=>be q) (F'.c.b _ _ bf').1 λv'=>?_;rw[bg'];constructor
  .exactλW'=>a1<|bV (q' v' W') (T' v' W') ((aC' _ (q' v' W').2).mpr<|aF v' W' I) fO
  .rintro(o|⟨I',J',bk',_⟩)
   .exact be o
   .refine ay ((aC' _ I'.2).mp bk') λy aD' bl'=>?_;rcases gd bl' with rfl|rfl
    .exact aD'
    .haveI:=T' _ aD';rw[fI I'.1,J']at this;exact aA this as
 haveI bm':(hu s.b r').map ao≠[]:=by
  refine ay ax' λy B P=>?_;haveI:y∈hu s.b r':=by unfold hu;exact eq.mpr ⟨(af' y).mpr B,fC ⟨J P<|yR G',P⟩⟩
  intro a';haveI:=fM (f:=ao) this;rw[a']at this;exact aC this ar
 refine cb I I I<|dM ?_;intro bR' bS';refine fh I I I I I (?_:bs _ _ _ [.b 0,.a N,.e c.d,.e<|c.d+1,.e<|c.d+2,.e<|c.d+3,.d,.d,.d,.d,.d,.d,.d] s aB');refine wY ar<|Dq I I c' bb' bc' aw' q' ay' av' (bj<|b7 _) (ci (j1 as) H'.d) (ci (kT (show 1<4 by decide) _) H'.d) H'.p H'.b as as λs' bn' bo' bp'=>fh I (aH m'.k<|aH c'.i as) I I I<|((bv ..).symm).symm▸(show(Z s.b.a:am)-1=(Z s.b.a-1:O)from n5<|cy<|k8 aA').symm▸(bN<|Pz c' m' G' av' S' F'.d (⟨bi'.e G' q' ay' λy B t=>⟨T' y B,bh' y B⟩,bn',bo',bp',bj',.d,I⟩:hP G A n m p' s j' ag' s' ([]++iE s.b r') ([]++d9 s.b r') [] [] ((hu s.b r').map ao) (Z s.b.a-1:O)) bm' (o4 aA' mz) ((H'.i _).g _) λah' o' e' bq' V' aE' x aF' ai' aG' W f' k'=>bH f' λbr' bs'=>b6 (m'.s br' x bs') λaH' bt' t=>en ((W.a.a (ao x)).mp<|gA _) λbu' bv' X' bw'=>?_);haveI b':=ci (j1 as) k'.d;haveI K':=ci (kT (show 1<4 by decide) c.d) k'.d;haveI A':=ci (kT (by decide:2<4) c.d) k'.d;refine bN<|wZ (F:=λL'=>pI c (.a N) 1 aF' (.a x) aG' L' .d .d) c' (λv i'=>(W.a.b v i').1) (λt=>I) (λt=>I) (λt t=>I) (λt=>I) (λY' w'=>eB I ar w') k'.n λL'=>?_;let t':=iI ah' aE' ax;haveI x':∀u,t' u=an↔ah' u=an/\u∉aE':=λu=>xe;let aj':=(s.z ah' o').h t';haveI bx':k4 G n m aj' j' t' [] t' bq' V':=by
  refine⟨λt q=>q,λt t q=>aK q,λu=>?_,W.a.j,?_,W.p⟩
  .rw[W.a.h,x'];refine⟨λf'=>b6 f' λC n' P=>aP C ⟨n',λo=>?_⟩ P,λf'=>b6 f' λC n' P=>aP C n'.1 P⟩;replace P:=((W.a.b u o).2.2.1)▸P;exact(aq [1,1] I:ap 1 0 [.e .i .a,.c .g .i] .i) G' P
  .haveI:=W.j;rw[cW.d]at this
   .exact this
   .exactλu t t=>⟨λo=>⟨(x' u).mpr o,fO⟩,λo=>(x' u).mp o.1⟩
 have M':∀y∈e',bt n y/\a4 s.b.b y=-1/\t' (ao y)=an/\0<s.b.e (ao y):=λy B=>by exact tz (W.a.c y B) λC n' P by' o=>bV C n' ((x' _).mpr ⟨P,λa'=>o (W.a.b _ a').2.2.1⟩)<|(ku [1,0,1] [1,1] I I:ap 0 1 [.j .a .i,.d .i .a] (.b .i .a)) by' (m'.a _ C.2<|W.a.d _ C.2 P).1
 refine P0 (s:=aj') c' m' S' F'.d b' K' A' (bj<|b7 _) (bj<|j1 as) (bj<|kT (show 1<2 by decide) c.d) k'.p k'.b k'.e (J W.f<|(aq [1,1,1] I:ap 2 0 [.g .a<|.c 4,.g .b<|.h .a] (.g .b<|.c 50)) c'.i W.e.2.2.1) M' W.a.g bx' λaI' Z' y' B' aJ' bT' I' g' aK' aa' bz' aL' aM' bA' bB' bC' bD'=>?_;let aN':=aj'.h Z';have R:=cX (aH k'.d aK') aa';have aO':∀v∈y',v<=n/\s.b.b v≠0/\s.b.e v=0:=λv i'=>b6 ((g'.c v).mp i') λh' s' o'=>aP h' (aE (g'.b v h' s') (λo=>W.a.d v h' ((x' v).mp o).1) λo=>o.2) o';refine⟨bO (.c _) aM' I bk,w0 (s:=aN') (p:=s.e) F' ⟨c',m',S',F',ee.j,be'⟩ (oa aL') ar aO' (yW c'.i g'.a) λE ak' bU' z' bE' J' al' bF' am' T bG' N' aP' bH'=>?_⟩;haveI aQ':∀D:U<|am×am,dA (ct D):=λD v i'=>by refine ay (bL.mp i') λy t O'=>az O' ?_;trivial
 haveI bI':Z z'=Z y':=by haveI:=aW Z al'.a;rw[bv,bv,fK J']at this;exact this
 have aR':Z B'+Z z'<=60:=(aq [1,2,1,1,1,1,0,1] I:ap 6 0 [.g .a<|.c 4,.g .b<|.h .a,.g .f<|.e .l<|.c 5,.g .d<|.h .a,.a .g .d,.a .l .b] (.g (.e .f .g)<|.c 60)) c'.i W.e.2.2.1 bD' g'.a bI' W.f;refine sG ((aq [0,1,1,1] I:ap 3 0 [.e (.e .a<|.c 4) .b,.g .b .f] (.h (.e .a<|.c 2) .f)) R N') (ct B') (ct z') ((T.a _ (by exact(aq [1,1] I:ap 2 0 [.e (.e .a<|.c 4) .b] (.e (.e .a<|.c 2) .b)) R)).trans aM') bH' (aQ' _) (aQ' _) (by rw[show∀D:U<|am×am,Z (ct D)=Z D fromλt=>bv ..,show∀D:U<|am×am,Z (ct D)=Z D fromλt=>bv ..];exact aH aR' as) ?_;let P':=ak'.i (c.d+2)<|.e<|ct B'++ct z';have ab':∀w,w≠c.d+2->P'.a w=ak'.a w:=λw z=>aG z;let an':=((P'.b<|.e [.a (ao x)]).b<|.e<|bQ<|e'.map ao).b<|.e<|[.a (ao x)]++bQ (e'.map ao);let ac':=[ao x]++e'.map ao++y';haveI bJ':([V.a (ao x)]++bQ (e'.map ao))++bQ y'=bQ ac':=by refine(J dY<|J dY ?_:_=([ao x]++e'.map ao++y').map _);rfl
 let C':=an'.b<|.e<|bQ ac';have ao':∀w,w<P'.d->C'.a w=P'.a w:=λw z=>(aG<|bj<|mw 3 z).trans<|(aG<|bj<|mw 2 z).trans<|(aG<|bj<|mw 1 z).trans<|aG<|bj z;have ad':Z e'<=1000:=(aq [1,1,1] I:ap 2 0 [.g .a<|.c 4,.g .b .a] (.g .b<|.c 1000)) c'.i W.e.1;haveI bK':∀v∈ac',v<=n:=λv i'=>by
  refine aE (cK.mp i') (λo=>?_) λo=>?_
  .exact aE (cK.mp o) (λo=>J (b9.mp o) bu') λo=>ay (bL.mp o) λy B O'=>az O' (W.a.c y B).1.2
  .exact(aO' v o).1
 let aS':=aN'.w E;refine bN<|wZ (c2:=C') (F:=λL'=>[.b 0,.a N,.e c.d,.e<|c.d+1,.e<|c.d+2,.e<|c.d+3,.a 1,.a aF',.a x,aG',L',.e aJ',.d]) (s:=aS') (c:=P') c' bK' (λt=>I) (λt=>I) (λt t=>I) (λt=>I) (λY' w'=>?_) aR λL'=>?_
 .refine sm<|sm<|K2 I<|lc e' V.a (λy=>V.a (ao y)) (λY' w'=>eB I ar w') I (fW<|(aG (by exact(aq [0,1,1,1] I:ap 3 0 [.e (.e .a<|.c 4) .b,.g .b .f] (.h .a .f)) R T.d)).trans<|(ab' _ (by exact@uK _)).trans<|(T.a _ (by exact(aq [1,1] I:ap 2 0 [.e (.e .a<|.c 4) .b] (.e .a .b)) R)).trans bA') ad' (λt t=>ar) (λy t Y' w'=>w')<|xh.symm▸(h3 [.a (ao x)] (bQ<|e'.map ao) ((aG<|bj<|b7 _).trans aR) aR (by rw[show∀u':U O,Z (bQ u')=Z u' fromλt=>bv ..,bv];exact aH (iR ad' 1) as) ?_);refine h3 _ (bQ y') aR ?_ ?_ (J bJ' w':Y' (.e an'.d) aS' (an'.b<|.e<|([.a (ao x)]++bQ (e'.map ao))++bQ y'))
  .refine(aG<|bj ?_).trans<|(aG<|bj ?_).trans<|(aG<|bj ?_).trans<|(ab' _ (by exact@yU _)).trans<|(T.a _ (by exact(aq [1,1] I:ap 2 0 [.e (.e .a<|.c 4) .b] (.e (.h .a) .b)) R)).trans aL'
   .exact(aq [1,1,1] I:ap 3 0 [.e (.e .a<|.c 4) .b,.g .b .f] (.e (.h .a)<|.h<|.h .f)) R T.d
   .exact(aq [1,1,1] I:ap 3 0 [.e (.e .a<|.c 4) .b,.g .b .f] (.e (.h .a)<|.h .f)) R T.d
   .exact(aq [1,1,1] I:ap 3 0 [.e (.e .a<|.c 4) .b,.g .b .f] (.e (.h .a) .f)) R T.d
  .rw[bI,show∀u':U O,Z (bQ u')=Z u' fromλt=>bv ..,show∀u':U O,Z (bQ u')=Z u' fromλt=>bv ..,bv];exact aH (kS (iR ad' 1)<|aH g'.a<|lJ c'.i 1) as
 let r:=e'.filter λy=>!a0 (j9 s.b s.a t' y);let ap':=iI Z' ac' ax;have Q':∀y,y∈r↔y∈e'/\¬j9 s.b s.a t' y:=λy=>by unfold r;rw[eq,kM,yk]
 have aq':∀v,v∈aI'->∃y∈e',ao y=v/\j9 s.b s.a t' y:=λv i'=>ay (bL.mp<|I'.mem_iff.mp i') λy h' s'=>aM (eq.mp h') λo' bL'=>bO y o' s'<|fa bL';have R':∀v,v∈bE'↔v<=n/\Z' v=an/\s.b.e v=0:=λv=>tC J'.mem_iff<|g'.c v;have aT':∀u,u<=n->Z' u=an->s.b.e u=0\/u=ao x\/∃y∈e',ao y=u:=λu d' o=>by
  refine aE (g'.b u d' o) (λl'=>?_) λl'=>aK l'.1
  .refine aM ((x' u).mp l') λH b'=>?_;by_cases aU':s.b.e u=0
   .exact aK aU'
   .by_cases aV':s.b.e u=Z s.b.f
    .exact a1<|aK<|b9.mp<|(W.a.a u).mpr<|bV d' H aV' b'
    .exact a1<|a1<|W.a.k u d' H aU' aV'
 refine bH am'.l λP aW'=>?_;have bM':c4 E.l j' (B'++z')<|ea<|cW n s.b (λt=>bW) λu=>∃y∈-x::r,ao y=u:=by
  haveI ai':=al'.g c'.i m' (J'.nodup_iff.mpr g'.g) (λv i'=>⟨((R' v).mp i').2.1,λo=>by refine ch (aq' v o) λy h' O' t=>?_;subst O';haveI:=(M' y h').2.2.2;haveI:=((R' _).mp i').2.2;exact yX (by assumption) (by assumption)⟩) (λt q=>be q)<|J aW' g'.j.f;rw[cW.d]at ai'
  .exact ai'
  .intro u bV' aX';constructor
   .refineλbN'=>b6 bN' λh' s' o'=>bb ?_;intro bW';exact aE (aT' u aX' s') (λl'=>aA ((R' u).mpr<|aP aX' s' l') h') λar'=>aE ar' (λl'=>aF (-x) (bu ..) (by rw[du,l'])) λf'=>ay f' λy H b'=>aF y (cm _<|(Q' y).mpr ⟨H,λa'=>o'<|I'.mem_iff.mpr<|bL.mpr<|aF y (eq.mpr ⟨H,fC a'⟩) b'⟩) b'
   .rintro⟨y,h',rfl⟩;rcases cu.mp h' with rfl|h'
    .rw[du];exact aP (λa'=>(aq [1,0,1,1] I:ap 1 1 [.e .i .a,.c .a .g,.c .a .i] .i) G' X' ((R' _).mp a').2.2) (g'.e _<|(x' _).mpr ⟨bv',bw'⟩) λa'=>ch (aq' _ a') λv' H b' t=>(W.a.c v' H).2.2.2.2<|J b' X'
    .refine aM ((Q' y).mp h') λH b'=>en (M' y H) λas' bO' aY' at'=>?_;exact aP (λa'=>yX at' ((R' _).mp a').2.2) (g'.e _ aY') λa'=>ch (aq' _ a') λv' K' A' N'=>b'<|az (ls W.a.g K' H A') N'
 have bP':lQ G n m p' s j' E ap' o' (-x) r<|B'++z':=by
  refine⟨bF'.c,am',λu d'=>?_,W.k,W.d.f bd',W.d.a.2,W.l,λy B=>?_,?_,?_,λy B=>?_,bM',fc.q (J aW'<|g'.p.f λaI'=>el.c am'.q (b4 _) λt t=>I) al'.e,J bI aR'⟩
  .cases bQ':ap' u with|false=>rfl|true=>refine aM (xe.mp bQ') λH b'=>aA ?_ b';exact aE (aT' u d' H) (λl'=>dN _<|(g'.c u).mpr<|aP d' H l') λar'=>aE ar' (λl'=>ii _<|ii _<|b9.mpr l') λf'=>ay f' λy K' A'=>ii _<|dN _<|bL.mpr<|aF y K' A'
  .rcases cu.mp B with rfl|B
   .exact⟨aH'.v,J (fI aH'.1)<|J bt' I⟩
   .haveI:=M' y ((Q' y).mp B).1;exact⟨this.1,this.2.1⟩
  .rw[iO,dO];refine⟨λa'=>ay (bL.mp a') λy H b'=>?_,kv W.a.g _⟩;rw[du]at b';exact(W.a.c y ((Q' y).mp H).1).2.2.2.2<|J b' X'
  .rw[du];exact X'
  .obtain⟨H,_⟩:=(Q' y).mp B;refine en (M' y H) λas' bO' aY' at'=>?_;haveI:=(m'.a _ as'.2<|W.a.d _ as'.2 (W.a.c y H).2.2.1).2;haveI:=(W.a.c y H).2.2.2.2;exact⟨at',(ku [1,1] [1,0,1] I I:ap 1 1 [.j .a .g,.d .a .g] (.b .a .g)) (by assumption) (by assumption)⟩
 refine mq<|oN<|d7<|sm<|K4 I<|eB I ar ?_;let au':=C'.b<|.e [.a<|-x];haveI D':C'.d=ak'.d+1+1+1+1:=I;refine h3 [.a<|-x] (aD r) aR ((aG<|bj (by exact(aq [1,1,1,0,1] I:ap 4 0 [.e .a .b,.g .b .f,.a .l<|.h<|.h<|.h<|.h .f] (.e .a .l)) aa' T.d D')).trans<|(ao' aJ'<|yY aa' T.d).trans<|(ab' _ (by exact(aq [1,0,1,1] I:ap 3 0 [.g .a .b,.g (.e .f<|.c 4) .a] (.h .b<|.e .f<|.c 2)) aK' k'.d)).trans<|(T.a _ aa').trans bz') ?_ ?_
 .exact J eI<|aH (iR (aH (gY ..) ad') 1) as
 .have aZ':∀w,w<C'.d->(au'.b<|.e<|aD<|-x::r).a w=C'.a w:=λw z=>(aG<|bj<|er z).trans<|aG<|bj z;exact q E ap' o' (-x) r (B'++z') au'.d (c.d+2) (au'.b<|.e<|aD<|-x::r) bP' ((aq [1,1,1,0,1] I:ap 4 0 [.e (.e .a<|.c 4) .b,.g .b .f,.a .l<|.h<|.h<|.h<|.h .f] (.g .a<|.h .l)) R T.d D') (b7 _) (@F6 _) ((aq [1,1,1,0,1] I:ap 4 0 [.e (.e .a<|.c 4) .b,.g .b .f,.a .l<|.h<|.h<|.h<|.h .f] (.e (.e .a<|.c 2)<|.h<|.h .l)) R T.d D') aR ((aZ' _ (by exact(aq [1,1,1,0,1] I:ap 4 0 [.e (.e .a<|.c 4) .b,.g .b .f,.a .l<|.h<|.h<|.h<|.h .f] (.e (.e .a<|.c 2) .l)) R T.d D')).trans<|(ao' _ (by exact(aq [1,1,1] I:ap 3 0 [.e (.e .a<|.c 4) .b,.g .b .f] (.e (.e .a<|.c 2) .f)) R T.d)).trans<|aR.trans<|az dY I) ⟨(aq [1,1,1,0,1] I:ap 4 0 [.e (.e .a<|.c 4) .b,.g .b .f,.a .l<|.h<|.h<|.h<|.h .f] (.g .a<|.h<|.h .l)) R T.d D',λw z=>(aZ' w<|(aq [1,1,1,1,0,1,1] I:ap 6 0 [.e (.e .a<|.c 4) .b,.g .b .f,.e .f .l,.a .d<|.h<|.h<|.h<|.h .l,.e .g .a] (.e .g .d)) R N' aP' D' z).trans<|(ao' w<|(aq [1,1,1,1,1] I:ap 5 0 [.e (.e .a<|.c 4) .b,.g .b .f,.e .f .l,.e .d .a] (.e .d .l)) R N' aP' z).trans<|(ab' w<|r1 z).trans<|(T.a w<|(aq [1,1,1] I:ap 3 0 [.e (.e .a<|.c 4) .b,.e .f .a] (.e .f .b)) R z).trans<|(bB' w ((aq [1,1,1] I:ap 3 0 [.e (.e .a<|.c 2) .b,.e .f .a] (.e .f .b)) A' z) (yT z)<|r1 z).trans<|k'.f w z⟩ λw=>(bG' w).trans<|(uh bC' _).trans<|uh k'.a _
end
end
section
variable{n m:O}{G:U (U am)}{A:U am}{t:b3}{a:db}{b:O->U am}{p:dD}{stp:O->am}
mutual
theorem fH.r(T:bG n t)(E:fH n t p){k q:O}(C:t.f[k]?=Y (q:am)):fH n (t.r k q) p:=by
 refine dC E.f λc A f Q b=>have a:=eb.mp<|Q _<|dZ C;⟨dQ c A (J lI<|J (iS<|eb.mp (T.d _<|dZ C).2.1) a) (λx M=>Q x<|List.mem_of_mem_take M) λi x M=>b i x (kn.mp M).2,λv P s=>?_⟩
 .haveI s:cE t.b (t.a.drop q) 0 v=0:=s;refine aE (eo<|∃y∈t.a.drop q,ao y=v) (λg=>ay g λy d W=>az W<|ay (Ca d) λi e M=>(b i y M).2<|aH a e) λg=>?_
  .rw[iH g]at s;exact E.w v P s
theorem fH.i(T:bG n t)(E:fH n t p)(M:bt n x)(q:a4 t.b x=0):fH n (t.i x c) p:=by
 refine dC E.f λr A b Q d=>?_;refine⟨dQ r A (J bI<|aH b<|js ..) Q λe y a=>?_,λv P s=>?_⟩
 .refine bb ?_;intro f;rcases km a with a|⟨rfl,rfl⟩
  .exact d e y a
  .exact⟨λg=>aA b<|EO.mpr g,λh=>E.w _ M.2<|c7.mp q⟩
 .haveI s:aw t.b (ao x) (ib x) v=0:=s;by_cases g:v=ao x
  .subst g;rw[aR]at s;unfold ib at s;split at s<;>exact aA s as
  .rw[aG g]at s;exact E.w v P s
theorem fH.o(E:fH n t p):fH n t.o p:=dC E.f λr A i Q b=>⟨dQ r A i (λx M=>aE (cK.mp M) (Q x) λg=>J (b9.mp g)<|eb.mpr i) b,E.w⟩
theorem fH.s(T:bG n j)(E:fH n t p)(A:j.f=t.f)(f:∃e,j.a=t.a++e)(k:∀d,d<=n->j.b d=0->t.b d=0)(l:∀c x,j.a[c]?=Y x->Z t.a<=c->t.b (ao x)=0):fH n j p:=by
 refine dC E.f λr m a Q o=>bH f λe b=>⟨dQ r m (J b<|J bI<|aH a<|js ..) (λx M=>Q x<|az A M) λc x M=>?_,λd P h=>E.w d P<|k d P h⟩
 .rcases f6 c (Z t.a)with g|g
  .replace M:=(lG g)▸b▸M;exact o c x M
  .exact⟨λq=>aA (aH a g)<|EO.mpr q,λu=>E.w _ (T.s c x M).1.2<|l c x M g⟩
theorem fH.C(T:bG n t)(E:fH n t p)(P:gu n A m t a c d l):fH n c p:=by
 refine bH P.s λe f=>?_;refine E.s P.j P.f P.s (λv k h=>?_) λi x M o=>jl λg=>cF (T.c _ (P.j.s i x M).1.2 g) λj y b q=>aA (dB b)<|kV.mpr<|(P.j.m M (J f<|li b) q.symm).1▸o
 .refine jl λg=>bb ?_;intro s;refine cF (T.c v k g) λi x b r=>?_;subst r;exact P.j.h (J f<|li b) h
theorem dp.C(T:bG n t)(B:dp G n m t a stp p)(P:gu n A m t a h i l):dp G n m h i stp p:=⟨B.b.C T P,B.d.q P.k,B.c⟩
theorem dp.e(B:dp G n m t a stp p)(z:cL p.l o k)(T:∀x,x∈k↔x∈l):dp G n (m+1) t (aw a m l) (aw stp m o) p:=by
 refine⟨B.b,λc d=>?_,B.c.b,B.c.a,λk q M r C=>el.c (λf f h=>h) (cO _) (λc d=>aG<|bj d)<|B.c.i k q M r C⟩;by_cases b:c=m
 .exact J b<|J aR<|J aR<|aF k z T
 .exact J (aG b)<|J (aG b)<|B.d c<|lK (kU d) b
structure lR(n:O)(t:b3)(k q:O)(a:am)(r:U am):Prop where
 c:t.f[k]?=Y (q:am)
 e:∀y∈a::r,bt n y/\a4 t.b y=-1
 g:b0 ((a::r).map ao)
 f:(k:am)<t.e (ao a)
 d:∀y∈r,t.e (ao y)<=k
 h:r=[]->k=0
 i:∀b j,r=b::j->t.e (ao b)=k
theorem lR.j(T:bG n t)(c:lR n t o q l r):a4 (t.r o q).b l=0/\q<=t.h (ao l)/\(∀y∈r,a4 (t.r o q).b y=-1/\t.h (ao y)<q):=by
 have m:∀y∈l::r,t.b (ao y)≠0:=λy f e=>aA (c7.mpr e)<|J (c.e y f).2 as;have s:=gW.mp λp=>by haveI:=(T.b _ ((c.e l<|bu ..).1).2 (m l<|bu ..) o q c.c).mp p;haveI:=c.f;exact(aq [1,1] I:ap 1 1 [.d .a .g,.b .g .a] .i) (by assumption) (by assumption)
 exact aP (jl λp=>r2 s ((l6 T (c.e l<|bu ..).1).1.mp p).2) s λy f=>aM (c.e y<|cm _ f) λh u=>⟨((l6 T h).2<|(l6 T h).1.mpr ⟨J u as,(T.b _ h.2 (m y<|cm _ f) o q c.c).mpr<|c.d y f⟩).trans u,(T.b _ h.2 (m y<|cm _ f) o q c.c).mpr<|c.d y f⟩
theorem lR.k(T:bG n t)(z:cT n A t m a)(P:ew t m a)(f:lR n t o q l r)(Q:ck t m a q)(R:q<=t.g):bG n ((t.r o q).i l m)/\cT n A ((t.r o q).i l m) (m+1) (aw a m<|l::r)/\ew ((t.r o q).i l m) (m+1) (aw a m<|l::r)/\ck ((t.r o q).i l m) (m+1) (aw a m<|l::r) ((t.r o q).i l m).g/\iq A ((t.r o q).i l m)/\((t.r o q).i l m).g<=q:=by
 refine b6 (f.j T) λu d' X=>?_;haveI B:l∈l::r:=bu ..;haveI F:=(f.e l B).1;haveI S:=(z.r T f.c).e ⟨λy w=>(f.e y w).1,f.g⟩ λj x M=>by
  refine aM (kn.mp M) λG W=>?_;obtain⟨y,h,v⟩:∃y h,r=y::h:=by cases a':r with|nil=>exact be ((aq [1,1] I:ap 2 0 [.e .a .b,.a .b .i] .i) G<|f.h a')|cons y h=>exact fu y h I
  have H:y∈r:=J v<|bu ..;haveI C:y∈l::r:=cm _ H;refine a1<|sH l B y<|bV C (λp=>?_) (λp=>p.g u) λp=>?_
  .haveI s:=f.d y H;rw[<-p]at s;exact(aq [1,1] I:ap 1 1 [.b .g .a,.d .a .g] .i) f.f s
  .have b':t.b (ao y)≠0:=λv=>aA (c7.mpr v) (by refine J (f.e y C).2 ?_;decide);haveI:=(T.b _ (f.e y C).1.2 b' j x W).mp p.2;rw[f.i y h v]at this;exact uI G this
 haveI K:aw a m (l::r) m=l::r:=aR;have L:((t.r o q).i l m).e (ao l)=o:=(J aR<|aW ig<|show Z (t.f.take o)=o from J lI<|(iS<|f4<|dB f.c).symm▸I:aw _ _ _ _=_);haveI N:((t.r o q).i l m).g=q:=Int.min_eq_right R;refine fh ((T.r f.c).i _ F u) (S.i (T.r f.c) F u<|a1<|dQ m I (b7 _) (J K B) λy w c'=>(X y<|hJ (cu.mp<|az K w) c').1) ?_ ?_ (iq.r T z f.c).i<|jm N
 .refine((P.r T (λc D=>(z.d c D).1) f.c).i u).e ⟨List.cons_ne_nil _ _,λx M=>?_⟩;injection M with E s;induction E;exact⟨kt,by refine J L<|J (f.h s) ?_;rfl⟩
 .refine J N<|((Q.r T (λc D=>(z.d c D).1) f.c).i u<|J (J lI<|J (iS<|eb.mp (T.d _<|dZ f.c).2.1) I:Z (t.r o q).a=q)<|gz _).e λx y h v=>?_;injection v with E s;subst E;refine⟨λp=>aA p.1 (by refine J (show a4 ((t.r o q).i l m).b l=1 from kt) ?_;decide),λe'=>⟨kt,J L ?_⟩⟩;show _<=aw _ _ _ _;exact J (aG<|qj u (by refine J (X y<|J s<|bu ..).1 ?_;decide))<|jm (f.i y h s).symm
end
end
section
variable{d n m:O}{s:aB}{c:aJ}{K:br}{G:U (U am)}{A:U am}{t:b3}
mutual
def FI(G:U (U am))(m:O)(k:db):Prop:=∀g∈G,∃c:O,c<m/\∀x,x∈k c↔x∈g
structure cp(G:U (U am))(A:U am)(n m q X M:O)(s:aB):Prop where
 b:cD n m s.d
 j:bG n s.b
 o:cT n A s.b m s.a
 w:ew s.b m s.a
 x:eF m s.a s.k
 c:dp G n m s.b s.a s.g s.e
 k:cZ n s.c
 d:g9 n q s.c s.f
 y:q<=m
 h:∀u:O,u<=n->s.f u=ax
 t:∀u:O,1<=u->u<=n->s.b.b u=0->0<=s.c.c u
 D:iq A s.b
 p:s.p=an
 z:FI G m s.a
 a:m+gh m s.a<=M
 f:(Z s.e.l:am)<=X+m+s.e.a
 g:M<=50/\X<=100
 B:Z A<=20
structure gI(G:U (U am))(n m q X:O)(s:aB):Prop where
 b:cD n m s.d
 j:bG n s.b
 a:s.b.f=[]
 c:el G n m s.e s.g
 k:cZ n s.c
 o:s.c.b<=i2 100
 h:∀u:O,u<=n->s.f u=ax
 p:s.p=ax
 d:∃w,s.s=Y w/\cL s.e.l w []
 f:Z s.e.l<=X+m+5
 g:m<=50/\X<=100
end
section
variable{q X M:O}
mutual
theorem cp.E(d:cp G A n m q X M s):Z s.b.f<=24:=by haveI h:=d.D;unfold iq at h;exact(aq [1,1,1,1,1] I:ap 4 0 [.g .a<|.e .b .f,.g .f .l,.g .l<|.c 4,.g .b<|.c 20] (.g .a<|.c 24)) h d.j.k d.b.i d.B
theorem cp.l(h:cp G A n m q X M s):Z s.e.l<=200/\m<=50:=ch h.c.b.f λr i k p=>⟨(aq [1,1,0,1,1,1,1,1,1,1] I:ap 8 1 [.c .a .g,.g .a .b,.g .b .f,.g .f<|.c 4,.d .u<|.e (.e .v .w) .a,.g .j<|.c 50,.g .d<|.c 100,.g (.e .g .r) .j] (.g .l<|.c 200)) i k h.j.k h.b.i h.f h.g.1 h.g.2 h.a,(aq [1,1,1] I:ap 3 0 [.g .a<|.c 50,.g (.e .b .f) .a] (.g .b<|.c 50)) h.g.1 h.a⟩
theorem Rl(b:cp G A n m q X M s)(k:T<m)(f:∀i∈s.a T,a4 s.b.b i=-1)(r:0<Z s.b.f):∃i∈s.a T,∃j∈s.a T,i≠j/\s.b.e (ao i)=Z s.b.f/\s.b.e (ao j)=Z s.b.f:=by
 have H:=o4 r mz;haveI C:=cl H;have l:∀i∈s.a T,¬fQ s.b s.b.f[Z s.b.f-1] i->s.b.e (ao i)=Z s.b.f:=λi h g=>by haveI o:=(b.o.d T k).1 i h;haveI p:s.b.b (ao i)≠0:=λe=>aA (c7.mpr e)<|J (f i h) as;haveI Q:=(b.j.a _ o.2 p).2;have c:=λw=>(λw=>g ⟨f i h,w⟩)<|(b.j.b _ o.2 p _ _ C).mpr w;exact zT Q c<|cy<|zS Q c
 refine bb ?_;intro u;rcases b.o.l _ _ C T k with⟨i,d,a,_⟩|⟨i,d,j,a,Q,c,t⟩
 .rw[f i d]at a;exact aA a as
 .exact⟨i,d,j,a,Q,l i d c,l j a t⟩
theorem hA.j(D:hA l o)(h:(b0 (l.map ao))):eC o:=D.e.imp_of_mem λ{a d}s f g=>by
 refine aE g (λg=>?_) λX=>aM X λi k=>?_
 .exact eN.mp g
 .haveI:=ls h ((D.h a).mp s) ((D.h d).mp f)<|de i;exact(aq [0,1,0,1] I:ap 2 2 [.b .a .b,.c .a .b] (.e .a .b)) k this
theorem Eh:(aD l).map kr=l:=by unfold aD;exact J go<|(kQ λp p=>I).trans<|xE l
def rW(s X:aB):Prop:=X.n=s.n/\X.r=s.r
theorem Eg:iu<|aD l:=λv P=>ay (bL.mp P) λi p e=>⟨i,e.symm⟩
theorem RQ(e:V.g (aD l)=V.g (aD x)):l=x:=by injection e with e;exact(Eh.symm.trans<|aW (SA kr) e).trans Eh
end
section
variable{e:dD}{g:O->ba}{h:ej}{a:am}{r f:U am}{D:U (am×am)}{b:O}{y z:am}
mutual
theorem lQ.i(P:lQ G n m q s f e g h a r D)(d:y∈s.a b)(E:z∈s.a b)(j:y≠z)(k:s.b.e (ao y)=Z s.b.f)(l:s.b.e (ao z)=Z s.b.f){w:U am}(A:∀x,x∈w↔x∈a::r)(o:∀x,x∈w↔x∈s.a b):bW:=haveI c:∀v∈s.a b,s.b.e (ao v)=Z s.b.f->v=a:=λv p t=>aE (cu.mp<|(A v).mp<|(o v).mpr p) id λu=>aA (t▸(P.b v u).2)<|xm _;j<|(c y d k).trans (c z E l).symm
theorem lQ.u(P:lQ G n m q s f e g h a r D)(c:n<=4)(L:eC B)(i:hA (a::r) B):ea (cW n s.b (λC=>bW) λE=>∃y∈a::r,ao y=E)=B:=by
 refine(lz (cW.e c λC b=>be b) L λx=>?_).symm;rw[i.h];refine⟨λb=>a1 ⟨(P.e x b).1,(P.e x b).2,x,b,I⟩,λd=>aE d be λX=>oR X λj k w z l=>?_⟩;rcases gd l with rfl|rfl
 .exact z
 .haveI:=(P.e _ z).2;rw[fI j.1,k]at this;exact aA this as
theorem lQ.w(P:lQ G n m q {s with A:=s.A+1} f e g h a r D)(d:cp G A n m q X M s)(p:b<m)(i:y∈s.a b)(E:z∈s.a b)(t:y≠z)(u:s.b.e (ao y)=Z s.b.f)(F:s.b.e (ao z)=Z s.b.f)(C:lR n s.b β x a B):gh (m+1) (aw s.a m<|a::B)+1<=gh m s.a:=by
 haveI H:=dB C.c;refine aM (d.o.d b p) λj K=>?_;haveI l:∀v∈s.a b,s.b.e (ao v)=Z s.b.f->s.b.b (ao v)≠0->(x:am)<=s.b.h (ao v):=λv c L N=>gW.mp λk=>by haveI:=(d.j.b _ (j v c).2 N β x C.c).mp k;rw[L]at this;exact uI H this
 haveI o:∀v∈s.a b,1<=ao v/\ao v<=4:=λv c=>⟨jn.mpr (j v c).1,aH (j v c).2 d.b.i⟩;exact ND d.b.i d.j d.o C.c (o y i) (o z E) (λk=>t<|ls K i E k) (l y i u) (l z E F) (λv c=>(C.e v c).1) (λv c=>(C.e v c).2) λv c=>((C.j d.j).2.2 v c).2
end
end
mutual
theorem PK{b:O}{x:V}(be':x=.a b)(t:cp G A n m q X M s)(Y':q<60)(bf':s.b.g=Z s.b.a)(bg':∀x∈s.b.f,ck s.b m s.a x)(e':b<m)(I':∀B∈s.a b,a4 s.b.b B=-1)(R:∀E C,gI G n m q X E->rW s E->aT c C->K .z E C)(k':∀E C,cp G A n (m+1) (q+1) X M E->ck E.b (m+1) E.a E.b.g->gh (m+1) E.a+1<=gh m s.a->rW s E->aT c C->K .z E C):aO a2 (d+10) 52 [.b 0,x] (bJ K)<|aL s c:=by
 revert d n m s c K G A q X M b x;refine@fk _<|eZ @(letI d:=_;letI n:=_;letI m:=_;letI s:=_;letI c:=_;letI K:=_;letI G:=_;letI A:=_;letI q:=_;letI X:=_;letI M:=_;letI b:=_;letI x:=_;(e2 ?_:eD _ _ d n m s c K G A q X M b x));intros;refine J be' ?_;have q':Z s.b.f<=100:=aH t.E as;refine aM t.l λax' J'=>aM (t.o.d b e') λK' bh'=>?_;let L':={s with A:=s.A+1};haveI ay':aT c ({c with e:=dz c.e 0 26}:aJ):=⟨b4 _,λN N=>I⟩;have az':∀B∈s.a b,s.b.b (ao B)≠0:=λB S h'=>aA (c7.mpr h') (by refine J (I' B S) ?_;decide);refine cb I I I ?_;let y':=aO a2<|d+9;refine(?_:bs y' _ _ [.b 0,.a b,.d,.d,.d,.d,.d,.d] s c);refine⟨I,ar,L',I,P6 I t.b e' K' λZ' aa'=>?_⟩;rcases Nat.eq_zero_or_pos (Z s.b.f)with i'|i'
 .have f:∀B∈s.a b,s.b.e (ao B)=0:=λB S=>by haveI:=t.j.a _ (K' B S).2<|az' B S;exact(c8 [1,1,0,0,1] [1,0,0,1] I I:ap 1 1 [.a .a .i,.d .i .a,.d .a .g] (.c .a .i)) i' this.1 this.2
  obtain rfl:Z'=0:=aE aa'.g id λab'=>ay ab' λB a y=>az y (f B a);refine jR I t.b t.j t.k q' (λN=>⟨λN=>Di I t.b t.j t.o t.c (aH ax' as) e' (λB S=>⟨I' B S,f B S⟩) λe C Q bi' aA' z' ac'=>R _ C ?_ ⟨I,I⟩<|ay'.i ac',λF=>aA I<|cg F⟩) λQ z'=>aA (dB z')<|(aq [1,1] I:ap 1 0 [.a .a .i] (.f<|.e .i .a)) i'
  .exact ch aA'.b.f λr l' M' N=>⟨t.b,t.j,iN.mp i',aA'.c,t.k,ey t.d.a.2<|ux t.d.b,t.h,I,⟨Q,I,z'⟩,(aq [1,1,1,0,1,1,1,1] I:ap 7 2 [.d (.d .g .j)<|.h<|.d .a .b,.c .a .s,.g .f .l,.g .l .d,.g .d<|.c 4,.d .j<|.e (.e .w .z) .b] (.g .a<|.e (.e .g .j)<|.c 5)) bi'.k l' M' t.j.k t.b.i t.f,J',t.g.2⟩
 .refine RE (Rl t e' I' i') λB S z ad' ae' A' af'=>?_;obtain rfl:Z'=Z s.b.f:=by
   haveI R:=aa'.e B S;rw[show L'.b.e (ao B)=s.b.e (ao B)from I,A']at R;refine aE aa'.g (λF=>(c8 [1,0,1] [1,1] I I:ap 1 1 [.d .g .a,.c .a .i] (.c .a .g)) R F) λab'=>ay ab' λQ aB' n'=>?_
   .haveI:=(t.j.a _ (K' Q aB').2<|az' Q aB').2;rw[show L'.b.e (ao Q)=s.b.e (ao Q)from I]at n';exact(c8 [1,0,0,1,1] [1,1] I I:ap 1 2 [.d .g .a,.c .b .a,.d .b .g] (.c .a .g)) R n' this
  refine jR I t.b t.j t.k q' (λN=>⟨λF=>aA (bU F)<|(aq [1,0,1] I:ap 1 0 [.e .i .a] (.f<|.c .g .i)) i',λN=>ay (t.c.d b e') λf ag' aC'=>PA I t.b t.j t.o t.c t.k t.d (yZ Y') t.h (aH ax' as) q' i' e' I' ⟨B,S,A'⟩ ag' aC' λe g h a r D aD' B' bS' P bT' N' bU' aE' aF' bj' bk' n'=>⟨I,I,I,?_⟩⟩) λQ z'=>aA (dB z')<|f5 _;let ah':=L'.F e g h;have ai':=aH (hk (λB S=>(P.e B S).1) P.g) t.b.i;refine oI (s:=ah') (hS.e N' aF') ai' λf' bl' C' bm' bn' bV'=>⟨I,I,I,?_⟩;let bo':U V:=[.b 0,.a b,.a (Z s.b.f),.e aD',.e B',.g<|aD f',.a b,.d];refine(?_:bs y' _ _ bo' ah' bl');refine⟨I,t.b.a e',oI (l:=s.a b) (.a I (J (aW dn.a t.b.d) e') I) (aH (hk K' bh') t.b.i) λbW' bX' bp' N bq' bY'=>⟨.j Eg Eg,λN=>?_,λF=>aA (RQ<|oV.mp<|cg F) λh'=>P.i S ad' ae' A' af' C'.h<|J h' bp'.h⟩⟩;have aj':c4 e.l f D f':=az (P.u t.b.i (C'.j P.g) C') P.j;haveI r':=bn'.i bq';haveI br':Z e.l<=210:=by haveI R:Z e.l-Z s.e.l<=e.a-s.e.a:=P.t.k;refine ch P.c.b.f λs' l' M' N=>ay t.c.b.f λbs' ak' N=>?_;haveI:=t.j.k;haveI:=t.b.i;exact(aq [1,1,1,1,0,0,1,1,1,1] I:ap 6 2 [.g .a<|.c 200,.d (.d .j .g)<|.d .a .b,.c .a .s,.c .b .u,.g .f .d,.g .d .g,.g .g<|.c 4] (.g .b<|.c 210)) (by assumption) (by assumption) (by assumption) (by assumption) (by assumption) (by assumption) (by assumption)
  refine⟨I,t.b.g e',tl I I P.c.c.b (aH br' as) (P.t.b ag') aj' P.p.e (aH P.f as) (ci aE' r'.d) ((r'.a _ aE').trans bj') (λh'=>?_) λbZ' h' ca' al' cb'=>?_⟩
  .subst h';obtain rfl:f=f':=aj';exact be (P.i S ad' ae' A' af' C'.h aC')
  let Q:am:=Z e.l;let bt':=ah'.x (le (s.g b) D f') h';haveI aG':=(al'.a _<|ci N' r'.d).trans<|(r'.a _ N').trans aF';haveI aH':=ci (ci N' r'.d) al'.d;haveI am':Z (a::r)<=bi:=aH ai' as;refine⟨.o<|a::r,aG',I,am',Du I I I t.b (y0 J') (aH bm' as) λaI' an' cc'=>?_⟩;let a':=bt'.C f' Q<|a0<|(1:am)<(b1.o<|a::r).k;let bu':U V:=[.b 0,.a b,.a (Z s.b.f),.e aD',.e B',.g<|aD f',.a m,.a Q];refine(?_:bs y' _ _ bu' a' aI');haveI aJ':=(an'.a _ aH').trans aG';have o':cD n (m+1) a'.d:=by refine⟨(J t.b.d ?_:({s.d with a:=s.d.a+1,g:=s.d.g+1,i:=s.d.i+1,l:=s.d.l+1}:dn)=_),t.b.i,n1 J'⟩;rfl
  let bv':=aI'.b<|.e<|aD [a];refine bN<|dW ⟨.o<|a::r,aJ',I,I,by decide,by decide,am',⟨.o<|a::r,(aG<|bj<|ci aH' an'.d).trans aJ',I,I,by decide,by decide,am',Dj (c:=bv'.b<|.e<|aD r) o' q' (oa aR) ar (λv T=>(P.e v<|cm _ T).1) (aH (cO _) ai') λH Z' ao' l' M' aK' cd' ce' bw' cf'=>?_⟩⟩;have D':Z H<=3:=by haveI:=fK l';haveI:Z (a::r)=Z r+1:=I;omega
  let t':=ao'.b<|.e<|aD<|a::H;refine⟨aD [a],aD H,(aK'.a _<|er<|b7 _).trans<|(aG<|bj<|b7 _).trans aR,bw',J eI<|J eI<|aH (iR D' 1) as,(?_:bs y' _ _ [.b 0,.a b,.a (Z s.b.f),.e ao'.d,.e B',.g<|aD f',.a m,.a Q] a' t')⟩;let L:={a' with a:=aw a'.a m<|a::H};let u':={t' with e:=ff t'.e<|.a 0 12 m,a:=aw t'.a ao'.d au};have E':u'.e (.a 0 12 m)=t'.e (.a 0 12 m)+1:=a9 I;let ap':=t'.e (.a 0 12 m)+1;refine⟨I,o'.a<|b7 m,a::H,L,aR,I,?_⟩;let bx':U V:=[.b 0,.a b,.a (Z s.b.f),.j (.a 0 12 m) ap',.e B',.g<|aD f',.a m,.a Q];refine(?_:bs y' _ _ bx' L u');have m':aw a'.a m (a::H)=aw s.a m (a::H):=(J (aW dn.a t.b.d)<|J tw I:aw (aw s.a s.d.a f') m _=_);haveI O':L.a m=a::H:=aR;have v':Z (L.a m)=Z H+1:=by refine J O' ?_;rfl
  have aq':Z (L.a m)<=bi:=J v'<|aH (lJ D' 1) as;have F':m<L.d.a:=J (aW dn.a o'.d)<|b7 m;have aL':∀v∈a::H,v∈a::r:=λv T=>aE (cu.mp T) (λF=>F▸bu ..) λF=>cm _<|l'.mem_iff.mp F;have P':=(P.e a<|bu ..).1;have Q':=ay'.i<|bk'.i<|r'.i<|al'.i<|an'.i<|(aT.b<|.e<|aD [a]).i<|(aT.b<|.e<|aD r).i aK';have aM':aT c u':=⟨aH Q'.d<|cO _,λby' ar'=>(aG<|bj<|ci ar' Q'.d).trans<|(aG<|bj<|ci ar' Q'.d).trans<|Q'.a by' ar'⟩;let G':={L with k:=kI s.k m<|a::H};let bz':U V:=[.b 0,.a b,.a (Z s.b.f),.j (.a 0 12 m) ap',.e B',.g<|aD f',.a m,.a Q];let aN':={e with l:=e.l++[le (s.g b) D f'],b:=h'};have R':=((qN a l').map _).nodup_iff.mpr P.g;haveI aO':∀{β b':O},lR n s.b β b' a H->gh (m+1) (aw s.a m<|a::H)+1<=gh m s.a:=P.w t e' S ad' ae' A' af';have aP':∀β b' x C,x=.a β->lR n s.b β b' a H->aT c C->C.e (.a 0 12 m)=ap'->aO a2 (d+9) 34 [.b 0,x] (bJ λN=>bs (aO a2<|d+9) (.d (.f<|.j (.c 0) 0 32<|.b (.i (.c 3)<|.a 0)<|.b (.c 6) .d)<|.d (.f<|.j (.c 0) 0 53<|.b (.c 6) .d)<|.f<|.j (.f (.c 0) 0 7) 1 14 .d) (eg K) bz') (aL G' C):=by
   intro β b' x C bA' c' ac' bB';haveI bC':=(t.j.d _<|dZ c'.c).2.1;refine jR bA' o' t.j P.k q' (λF=>aA (dB c'.c)<|kV.mpr F) λw' S' T' U' cg' aQ' bD' p'=>?_;haveI S':s.b.f[β]?=Y (w':am):=S';obtain rfl:w'=b':=by rw[c'.c]at S';exact(de<|bE S').symm
   let aR':=G'.y (s.b.r β w') T' U';haveI bE':V.a (bS (L.a m) 0 0)=.a a:=by refine J O' ?_;rfl
   refine⟨bx bB'.symm (bD' m).symm,F',(J v' ⟨by decide,@F7 _,Gv D'⟩:d5 0 (Z (L.a m))),qz (s:=aR') bE' I o' P' (aH (Sy _ _) q') (aH (Sy _ _)<|uM t.j.k t.b.i)<|wY ar ?_⟩;let V':=(s.b.r β w').i a m;let W':={aR' with b:=V'};haveI as':=P.d.a.1;haveI aS':U'.b+U'.b/19+1<=i2 (q+1):=J p'.2.2.1<|(λx B R k'=>(aq [19,20,1,1] I:ap 0 4 [.d .a .b,.d (.m 19 .f) .a,.b .b<|.e (.m 19 .l)<|.c 19] (.d (.h<|.e .a .f)<|.h<|.e .b .l)) k' (Es as)<|xn as:∀x B:am,0<=x->x<=B->x+x/19+1<=B+B/19+1) _ _ as' P.o;refine lE (c'.k t.j t.o t.w (bg' _<|dZ c'.c)<|J bf' bC') λbF' bG' bH' bI' bJ' ch'=>PF (s:=W') ((aq [1,0,1,1] I:ap 0 2 [.c .a .b,.d .i .b] (.d .i .a)) p'.2.2.1 as') ((aq [1,1,1] I:ap 0 3 [.d (.h<|.e .a .b) .f,.d .f<|.c 1000000] (.d (.h<|.e .a .b)<|.c 1000000000000)) aS'<|uw<|uN Y')<|k' _ _ ?_ (J m' bI':ck V' (m+1) (aw a'.a m<|a::H) V'.g) (J m'<|aO' c':gh (m+1) (aw a'.a m<|a::H)+1<=gh m s.a) ⟨I,I⟩<|ac'.i ⟨aQ'.d,aQ'.a⟩
   .haveI bK':eF (m+1) (aw s.a m<|a::H)<|kI s.k m<|a::H:=t.x.e λx B s' bL'=>by injection bL' with R k';subst R;rw[k',iO,iO,dO]at R';exact nt P'.1 ((P.e B<|aL' B<|J k'<|cm _<|bu ..).1).1 λF=>R'.1<|az F<|bu ..
    haveI aT':dp G n m s.b s.a s.g aN':=P.c.a<|P.c.c.d (P.t.b ag') aj' P.p (aK ⟨b,e',I⟩) h';haveI ak':=aT'.e cL.d λv=>(C'.h v).trans (qN a l').mem_iff.symm;refine⟨o',bF',J (show(W'.o _).a=_ from m') bG',J (show(W'.o _).a=_ from m') bH',J (show(W'.o _).a=_ from m') bK',(J m'<|J (J (aW dn.g t.b.d) I:aw s.g s.d.g Q=aw s.g m Q) ⟨(aT'.b.r t.j c'.c).i (t.j.r c'.c) P' (c'.j t.j).1,ak'.d,ak'.c⟩:dp G n (m+1) V' (aw a'.a m<|a::H) (aw s.g s.d.g Q) aN'),⟨p'.1.b,p'.1.g⟩,⟨uN Y',⟨(aq [19,0,20,20,1] I:ap 0 3 [.c .a .b,.d .i .b,.b .a<|.e (.m 19 .f)<|.c 19] (.d .i<|.h<|.e .a .f)) p'.2.2.1 as'<|xn as,aS'⟩,λj' g'=>(J p'.2.1<|P.d.c j' g':U'.d j'<=_)⟩,(aq [1,1] I:ap 2 0 [.g .a .b] (.g (.h .a)<|.h .b)) t.y,P.h,λj' bM' at' g'=>?_,bJ',t.p,λF bN'=>ay (t.z F bN') λC R k'=>⟨C,er R,(J m'<|J (aG<|bj R) k':∀x,x∈aw a'.a m (a::H) C↔_)⟩,?_,?_,t.g,t.B⟩
    .refine(p'.2.2.2 j' at').mpr ?_;haveI g':aw (cE s.b.b (s.b.a.drop w') 0) (ao a) (ib a) j'=0:=g';refine aE (eo<|j'=ao a) (λF=>?_) λF=>?_
     .subst F;rw[aR]at g';unfold ib at g';split at g'<;>exact aA g' as
     .rw[aG F]at g';refine aE (eo<|∃B∈s.b.a.drop w',ao B=j') (λn'=>a1 n') λn'=>?_
      .rw[iH n']at g';exact aK<|(P.l j' at').mpr<|t.t j' bM' at' g'
    .refine(J m' ?_:m+1+gh (m+1) (aw a'.a m<|a::H)<=M);haveI:=aO' c';haveI:=t.a;exact(aq [1,1,1] I:ap 4 0 [.g (.h .a) .b,.g (.e .f .b) .l] (.g (.e (.h .f) .a) .l)) (by assumption) (by assumption)
    .refine(?_:(Z (e.l++[_]))<=X+(m+1)+e.a);exact J bI<|J xD<|(aq [1,1,1] I:ap 4 2 [.d (.d .g .j)<|.d .a .b,.d .j<|.e (.e .s .u) .b] (.d (.p<|.h .a)<|.e (.e .s<|.p<|.h .l) .a)) P.t.k t.f
  haveI aU':=E';have aV':∀v∈H,v∈r:=λv T=>l'.mem_iff.mp T;haveI aW':∀v∈H,hZ a' v=s.b.e (ao v):=λv T=>a9 (P.e v<|cm _<|aV' v T).2;haveI aX':∀v∈H,0<s.b.e (ao v)/\s.b.e (ao v)<Z s.b.f:=λv T=>P.b v<|aV' v T;have au':∀v∈a::H,bt n v/\a4 s.b.b v=-1:=λv T=>P.e v<|aL' v T;have aY':∀β:O,β<Z s.b.f->∃b':O,s.b.f[β]?=Y (b':am):=λβ d'=>⟨bM s.b.f[β],J (cl d')<|J (eU (t.j.d _<|kN d').1) I⟩;haveI aZ':s.b.e (ao a)=Z s.b.f:=P.v;refine⟨E'.symm,F',aq',?_⟩;cases W:H with
  |nil=>
   haveI ba':Z (L.a m)=1:=by refine J v'<|J W ?_;rfl
   refine bH (aY' 0 i') λb' av'=>?_;haveI aw':G'=L:=by refine(J W ?_:({L with k:=kI s.k m<|a::H})=L);rfl
   haveI T':=aP' 0 b' (.a 0) u' I ⟨av',au',R',J aZ'<|(aq [1,1] I:ap 1 0 [.e .i .a] (.b (.p .i) .g)) i',J W λN d'=>aC d' ar,λN=>I,J W λN N d'=>aC d' ar⟩ aM' aU';rw[aw']at T';haveI bO':¬(1:am)<Z (L.a m):=by refine J ba' ?_;decide
   haveI bP':(Z (L.a m):am)=1:=by refine J ba' ?_;rfl
   exact⟨λF=>aA (bU F) bO',λN=>⟨E'.symm,F',aq',λN=>T',λF=>aA bP'<|cg F⟩⟩
  |cons y s'=>
   have X':y∈H:=J W<|bu ..;have H':Z (L.a m)=Z s'+2:=by refine J v'<|J W ?_;rfl
   obtain⟨β,x'⟩:∃β:O,s.b.e (ao y)=β:=⟨bM (s.b.e (ao y)),u7<|eU<|mU (aX' y X').1⟩;haveI bb':=aX' y X';refine bH (aY' β<|vf x' bb'.2) λb' av'=>?_;haveI c':lR n s.b β b' a H:=by
    refine⟨av',au',R',J aZ'<|(aq [1,0,1,1] I:ap 2 1 [.c .a .g,.b .a .j] (.b .g .j)) x' bb'.2,λv T=>?_,λd'=>(by rw[W]at d';exact aC d' ar),λci' bs' d'=>?_⟩
    .haveI R:=aW' v T;rw[W]at T;rcases cu.mp T with rfl|F
     .exact(aq [1,1] I:ap 1 1 [.c .a .g] (.d .a .g)) x'
     .exact(aq [1,1,0,0,1,1,0,1] I:ap 1 4 [.c .a .g,.c .b .f,.c .l .a,.d .b .l] (.d .f .g)) x' R (aW' y X')<|(o1.mp<|W▸M').1 v F
    .rw[W]at d';injection d' with R _;exact az R x'
   have bc':=(au' y<|cm _ X').1;have bd':bS (L.a m) 1 0=y:=by refine J O'<|J W ?_;rfl
   haveI bQ':Z (a::y::s')<=100:=by
    haveI:Z H=Z s'+1:=by refine J W ?_;rfl
    exact(aq [1,1,1,0,0,1] I:ap 3 0 [.g .a<|.c 3,.a .b<|.h .a,.a .b<|.e .f<|.c 2] (.g (.h<|.h .f)<|.c 100)) D' v' H'
   refine⟨λN=>DA I o' (b7 m) (bx O'<|aW (bX a) W) P' bc' bQ' (λbR'=>aH (t.x.k bR')<|uO J') ?_,λF=>aA (J H'<|@y2 _:(1:am)<Z (L.a m))<|cg F⟩;haveI aw':({L with k:=kI L.k m<|a::y::s'})=G':=by refine(J W ?_:_=({L with k:=kI s.k m<|a::H}:aB));rfl
   exact J aw' ⟨E'.symm,F',aq',λF=>aA (bU F) (J H'<|@F8 _:¬(Z (L.a m):am)=1),λN=>⟨E'.symm,F',(J H' ⟨by decide,@y2 _,by exact(aq [1,1,1,0,0,1] I:ap 3 0 [.g .a<|.c 3,.a .b<|.h .a,.a .b<|.e .f<|.c 2] (.g (.e .f<|.c 2)<|.c 16777216)) D' v' H'⟩:d5 1 (Z (L.a m))),I,(J bd'<|t.b.e bc'.2:d5 (ao (bS (L.a m) 1 0)) s.d.e),(J bd'<|aP' β b' (.a<|s.b.e (ao y)) u' (aW V.a x') c' aM' aU':aO a2 (d+9) 34 [.b 0,.a<|s.b.e (ao (bS (L.a m) 1 0))] (bJ _) (aL G' u'))⟩⟩
end
end
end
set_option backward.match.sparseCases true
section
variable{d n m:O}{s:aB}{c:aJ}{K:br}{G:U (U am)}{A:U am}{t:b3}
mutual
open Classical
inductive k1(s:aB)(c:aJ)(D E d o:O)(f k:U O)(N:U am):U V->aB->aJ->Prop|mk(A K:V):k1 s c D E d o f k N [.b 0,.a D,.a E,.e d,.e o,A,K] (s.h<|cE s.f N an)<|(c.i d<|.e<|bQ<|f++N.map ao).i o<|.e<|bQ<|k++d9 s.b N
theorem k1.a(A K:V)(d:l=N)(x:X=s.h (cE s.f N an))(n:g=(c.i f<|.e<|bQ<|h++N.map ao).i o (.e<|bQ<|k++d9 s.b N)):k1 s c D E f o h k l [.b 0,.a D,.a E,.e f,.e o,A,K] X g:=by subst d x n;exact .mk _ _
theorem Dn(c':f=.a cc)(d':y=.a sk)(v:cD n m s.d)(H:cc<m)(P:∀y∈s.a cc,bt n y)(D:(b0 ((s.a cc).map ao)))(M:j≠o)(e':c.a j=Y (.e<|bQ k))(f':c.a o=Y (.e<|bQ u))(g':Z k<=100)(h':Z u<=100)(i':K .z (s.h<|cE s.f (cq s.f sk<|s.a cc) an) ((c.i j<|.e<|bQ<|k++(cq s.f sk<|s.a cc).map ao).i o<|.e<|bQ<|u++d9 s.b (cq s.f sk<|s.a cc))):aO a2 (d+1) 59 [.b 0,f,y,.e j,.e o] (bJ K)<|aL s c:=by
 subst c' d';refine cb I I I<|aP I (v.a H) ⟨am,s.a cc,V.a,λp=>k1 s c cc sk j o k u<|cq s.f sk p,λp L Q R G=>G.casesOn λS S=>ol I<|J (aW dn.a v.d) H,?_,?_,λL Q R G=>G.casesOn λA B=>i'⟩
 .refine k1.a _ _ I (J oP I) ?_
  .refine(?_:c=(c.i j<|.e<|bQ<|k++[]).i o (.e<|bQ<|u++[]));rw[dI,dI,lv e',lv f']
 .refineλp f j' L Q R C G=>G.casesOn λA B=>?_;haveI E:=P f<|J C<|dN _<|bu ..;have T:Z (cq s.f sk p)<=4:=aH (gY ..)<|pG (aH (hk P D) v.i:Z (s.a cc)<=4) (C▸bI▸kP▸I:Z (s.a cc)=Z p+(Z j'+1));haveI W:cE s.f (cq s.f sk p) an (ao f)=s.f (ao f):=iH λk'=>ay k' λw l' m'=>by rw[C,dY,fN]at D;exact D.2.2 _ (fM (eq.mp l').1) _ (fM<|bu ..) m'
  haveI g:=Cr (B:=s.f) (sk:=sk) (l:=p) (x:=f);clear C;generalize cq s.f sk p=N at*;haveI h:¬(ao f≠sk/\s.f (ao f)=ax)->∀A B,k1 s c cc sk j o k u (cq s.f sk<|p++[f]) [.b 0,.a cc,.a sk,.e j,.e o,A,B] (s.h<|cE s.f N an) ((c.i j<|.e<|bQ<|k++N.map ao).i o<|.e<|bQ<|u++d9 s.b N):=λn' A B=>k1.a _ _ (bx g ((aW (N++·)<|bf n').trans<|dI _)) I I;refine⟨λX=>bV I (v.f E.2) (λt=>?_) λt=>h (λq=>?_) _ _,λX=>⟨λq=>aC q ar,λS=>h (λq=>cg X λw=>q.1<|de w) _ _⟩⟩
  .haveI r:=bx g (aW (N++·)<|a9 ⟨λq=>bU X<|aW ig q,W▸(az (kM _) t)⟩);haveI a':s.h (aw (cE s.f N an) (ao f) an)=s.h (cE s.f (N++[f]) an):=az xf I;haveI o':Z (bQ<|u++d9 s.b N)<bi:=by unfold bQ d9;rw[bv,bI,bv];exact cX (kS h'<|aH (gY ..) T) as
   haveI p':Z (bQ<|k++N.map ao)<bi:=by unfold bQ;rw[bv,bI,bv];exact cX (kS g' T) as
   haveI b':((c.i j<|.e<|bQ<|k++N.map ao).i o<|.e<|bQ<|u++d9 s.b N).a j=Y (.e<|bQ<|k++N.map ao):=(aG M).trans ht;haveI q':((c.i j<|.e<|bQ<|k++N.map ao).i o<|.e<|bQ<|u++d9 s.b N).i j (.e<|bQ (k++N.map ao)++[.a (ao f)])=(c.i j<|.e<|bQ<|k++(N++[f]).map ao).i o (.e<|bQ<|u++d9 s.b N):=by rw[<-wz M,ky,dY,<-iL];exact aW (λr'=>(c.i j<|.e r').i o _) qI.symm
   refine jK I (v.f E.2) bk (s.h<|aw (cE s.f N an) (ao f) an)<|eP I (bO (.c _) b' I bk) _ b'<|aP p' bk (J q' ?_:bs _ _ _ [.b 0,.a cc,.a sk,.e j,.e o,.a f,.a (ao f)] _ (((c.i j _).i o _).i j<|.e<|bQ (k++N.map ao)++[.a (ao f)]));refine bV I (v.e E.2) (λF=>kp qu _ ht o' bk<|k1.a _ _ r a' ?_) λF=>k1.a _ _ r a' ?_
   .refine(?_:((c.i j _).i o _).i o _=(c.i j _).i o _);rw[ky,qw,a9 (bU F:s.b.e (ao f)=0),<-iL,qI]
   .rw[qw,bf (cg F:¬s.b.e (ao f)=0),dI]
  .haveI t:(!cE s.f N an (ao f))=ax:=t;replace t:=q.2▸W▸t;exact aC t ar
structure gr(n m:O)(s:aB)(e:am)(r:U am)(b:am)(a:O->ba)(A:U am)(l o:U O)(q:U (am×am)):Prop where
 d:∀u:O,u<=n->a u=an->s.b.b u≠0/\s.b.h u<=s.b.h (ao e)
 h:∀u:O,u∈o↔u<=n/\a u=an
 k:b0 o
 c:∀u:O,u∈l↔u<=n/\a u=an/\s.b.e u=0
 i:b0 l
 f:∀x,x∈A↔bt n x/\a4 s.b.b x=1/\a (ao x)=an/\s.b.j (ao x)=-1/\ao x≠ao e/\b<=s.b.h (ao x)
 g:b0 (A.map ao)
 j:c4 s.e.l r q<|ea<|cW n s.b (λx=>x=-e) λu=>a u=an/\u≠ao e/\(s.b.j u=-1\/s.b.h u<b)
 p:fc s.e.l (hb n m s.e s.g) q
theorem gr.b(W:gr n m s w y z B q r v C):Z v<=n+1/\Z r<=n+1/\Z q<=n:=by
 haveI a:∀l:U O,(b0 l)->(∀u∈l,u<=n)->Z l<=n+1:=λl A i=>by haveI:=hx A λu h=>ed.mpr<|mx<|i u h;rwa[ec]at this
 exact aP (a _ W.k λu h=>((W.h u).mp h).1) (a _ W.i λu h=>((W.c u).mp h).1)<|hk (λx M=>((W.f x).mp M).1) W.g
theorem qC(T:bG n s.b){i:O}(M:s.b.a[i]?=Y x)(h:u<=n)(a:s.b.b u≠0):s.b.h u=i↔u=ao x:=by
 refine cF (T.c u h a) λj y A b=>az b<|J (T.s j y A).2.2 ?_;constructor
 .intro e;obtain rfl:=de e;rw[M]at A;exact az (bE A) I
 .exactλe=>az (T.m A M e).1 I
theorem gr.e(T:bG n s.b)(W:gr n m s v w (q+1:O) r B C D E)(M:s.b.a[q]?=Y x)(A:r (ao x)=ax):gr n m s v w q r B C D E:=by
 have l:∀u:O,u<=n->r u=an->s.b.h u≠q:=λu o h g=>by replace h:=A▸((qC T M o (W.d u o h).1).mp g)▸h;exact aC h ar
 refine{W with f:=λy=>(W.f y).trans ?_,j:=?_}
 .constructor
  .exactλX=>lE X λa b c d g k=>fh a b c d g<|ey (eb.mpr<|cO _) k
  .exactλX=>lE X λa b c d g k=>fh a b c d g<|tG.mpr ⟨k,(l _ a.2 c).symm⟩
 .haveI:=W.j;rw[cW.d]at this
  .exact this
  .exactλu t p=>mK λh=>mK λF=>FD ⟨λz=>uP (l u p h) z,λz=>uQ z⟩
theorem gr.l(T:bG n s.b)(W:gr n m s v z (r+1:O) w B C D E)(M:s.b.a[r]?=Y x)(L:w (ao x)=an)(F:s.b.j (ao x)=-1)(G:r<s.b.h (ao v)):gr n m s v z r w (B++[x]) C D E:=by
 refine b6 (T.s r x M) λH R t=>?_;have N:ao x≠ao v:=λe=>by rw[<-e,t]at G;exact pH G
 refine{W with f:=λy=>?_,g:=?_,j:=?_}
 .rw[cK,b9,W.f];constructor
  .rintro(⟨o,b,c,d,e,A⟩|rfl)
   .exact fh o b c d e<|(aq [1,1] I:ap 1 1 [.d (.p<|.h .a) .a] (.d .g .a)) A
   .exact fh H R L F N<|(aq [1,0,1] I:ap 1 1 [.c .a .g] (.d .g .a)) t
  .refineλP=>lE P λo b c d e A=>?_;by_cases k:s.b.h (ao y)=r
   .rcases gd ((qC T M o.2 (W.d _ o.2 c).1).mp k)with rfl|rfl
    .exact a1 I
    .rw[fI H.1,R]at b;exact aA b as
   .exact aK<|fh o b c d e<|y3 k A
 .rw[dY,fN];refine aP W.g (dO.mpr ⟨fO,fm⟩) λo Q b S e=>?_;rw[b9.mp S]at e;refine ay (bL.mp Q) λy X a'=>?_;subst a';haveI:=((W.f y).mp X).2.2.2.2.2;rw[e,t]at this;exact(aq [1] I:ap 1 0 [.d (.p<|.h .a) .g] .i) this
 .haveI:=W.j;rw[cW.d]at this
  .exact this
  .refineλu c' K=>mK λb'=>mK λd'=>?_;constructor
   .rintro(k|k)
    .exact aK k
    .refine bb ?_;intro e';by_cases q:s.b.h u=r
     .exact aK<|J ((qC T M K (W.d u K b').1).mp q) F
     .exact a1<|uP q k
   .exactλk=>k.imp id λk=>uQ k
theorem gr.o(j':n<=4)(T:bG n s.b)(k':cT n A s.b m s.a)(l':ir m s.a s.g s.e.l)(W:gr n m s B D (C+1:O) r E F H L)(b':bt n B/\a4 s.b.b B=-1){G:O}(c':s.b.a[C]?=Y x)(x':r (ao x)=an)(m':s.b.j (ao x)=G)(e':G<m)(n':hD s.b (s.a G) (ao x))(w:C<s.b.h (ao B)):gr n m s B D C (cE r (cq r (ao x)<|s.a G) an) E (F++d9 s.b (cq r (ao x)<|s.a G)) (H++(cq r (ao x)<|s.a G).map ao)<|L++[((ao x:am),s.g G)]:=by
 revert A D E F H L j' T k' l' W b';revert n m s B C r x G;refine@fk _<|e0 @(letI n:=_;letI m:=_;letI s:=_;letI B:=_;letI C:=_;letI r:=_;letI x:=_;letI G:=_;(e3 ?_:eE _ _ n m s B C r x G));intros;refine bb ?_;intro o';refine b6 (T.s C x c') λp' K' d'=>aM (k'.d G e') λf' y'=>ay (l' G e') λL' q' z'=>?_;have r':ao x≠ao B:=λe=>by rw[<-e,d']at w;exact pH w
 have i:∀y,y∈cq r (ao x) (s.a G)↔y∈s.a G/\ao y≠ao x/\r (ao y)=ax:=λy=>by unfold cq;rw[eq,ip]
 have s':b0 ((cq r (ao x)<|s.a G).map ao):=kv y' _;have z:∀y∈s.a G,ao y≠ao x->a4 s.b.b y=-1/\s.b.h (ao y)<C:=λy R g'=>by haveI:=n'.2 y R g';exact⟨this.1,(aq [1,1,0,1] I:ap 1 2 [.c .a .g,.b .b .a] (.b .b .g)) d' this.2⟩
 have t':∀u,u∈d9 s.b (cq r (ao x)<|s.a G)↔∃y∈cq r (ao x) (s.a G),s.b.e (ao y)=0/\ao y=u:=λu=>by unfold d9;rw[bL];exact⟨λl=>ay l λy j t=>aM (eq.mp j) λA' S=>bO y A' (fa S) t,λl=>ch l λy j t e=>aF y (eq.mpr ⟨j,fC t⟩) e⟩
 have u':∀{u:O}{y:am},y∈cq r (ao x) (s.a G)->r u=an->u=ao y->bW:=λ{u y}N P a'=>by replace P:=(((i y).mp N).2.2)▸a'▸P;exact aC P ar
 refine⟨λu B' C'=>?_,λu=>?_,?_,λu=>?_,?_,λy=>(W.f y).trans ?_,W.g,?_,W.p.u (vb p'.1 oY qh) q'<|aK<|aF G e' I⟩
 .rcases ie.mp C' with K|⟨y,K,rfl⟩
  .exact W.d u B' K
  .exact b6 ((i y).mp K) λX q M'=>⟨(λy R g' e=>aA (c7.mpr e) (by refine J (z y R g').1 ?_;decide):∀y∈s.a G,ao y≠ao x->s.b.b (ao y)≠0) y X q,(aq [1,1,1] I:ap 1 2 [.b .g .a,.b .b .g] (.d .b .a)) w (z y X q).2⟩
 .rw[cK,W.h,ie,bL];constructor
  .rintro(⟨j,t⟩|⟨y,j,rfl⟩)
   .exact⟨j,aK t⟩
   .exact⟨(f' y ((i y).mp j).1).2,a1<|aF y j I⟩
  .rintro⟨j,t|t⟩
   .exact aK ⟨j,t⟩
   .exact a1 t
 .rw[fN];refine aP W.k s' λj h' t i' e=>ay (bL.mp i') λy X D'=>?_;subst D';exact u' X ((W.h j).mp h').2 e
 .rw[cK,W.c,ie,t'];constructor
  .rintro(⟨j,t,c⟩|⟨y,j,t,rfl⟩)
   .exact aP j (aK t) c
   .exact aP (f' y ((i y).mp j).1).2 (a1<|aF y j I) t
  .rintro⟨j,t|⟨y,t,rfl⟩,c⟩
   .exact aK<|aP j t c
   .exact a1<|bO y t c I
 .rw[fN];refine aP W.i (kv s' _) λj h' t i' e=>ch ((t' t).mp i') λy X q E'=>?_;subst E';exact u' X ((W.c j).mp h').2.1 e
 .constructor
  .exactλl=>lE l λj t c d e Q=>fh j t (ie.mpr<|aK c) d e<|ey (eb.mpr<|cO _) Q
  .refineλF'=>lE F' λj t c d e Q=>bb ?_;intro o';refine aE (ie.mp c) (λK=>?_) λl=>ay l λv' K G'=>?_
   .refine fh j t K d e ?_;haveI:=λS=>by replace d:=m'▸((qC T c' j.2 (W.d _ j.2 K).1).mp S)▸d;exact uR d
    exact y3 this Q
   .refine b6 ((i v').mp K) λX q H'=>?_;haveI:=(z v' X q).2;rw[G']at this;exact⟨be (r2 Q this),⟨(c8 [0,1,1] [0,1,1] I I:ap 1 2 [.d .g .a,.b .a .g] (.c .b .k)) Q this,⟨be (r2 Q this),⟨(c8 [0,1,1] [0,1,1] I I:ap 1 2 [.d .g .a,.b .a .g] (.c .b<|.c<|-1)) Q this,⟨(aq [0,0,1,1] I:ap 3 1 [.d .g .a,.b .a .g] (.h .b .f)) Q this,(aq [0,1,1] I:ap 1 1 [.d .g .a,.b .a .g] (.d (.p<|.h .a) .a)) Q this⟩⟩⟩⟩⟩
 .haveI:=W.j.d j' T p'.2 (T.h c') (aP x' r'<|a1<|J d'<|@F5 _) q' z' f' n' λN' I'=>?_
  .rw[cW.d]at this
   .exact this
   .intro u O' w';rw[ie];constructor
    .rintro⟨N,⟨P,a',M⟩|⟨y,P,rfl⟩⟩
     .refine aP (aK P) a'<|M.imp id λM=>?_;exact uP (λS=>N<|(qC T c' w' (W.d u w' P).1).mp S) M
     .haveI:=(z y P N).2;refine aP ?_ (λe=>by rw[e]at this;exact y4 w this)<|a1 this;cases J':r (ao y)with|true=>exact aK I|false=>exact a1<|aF y ((i y).mpr<|aP P N J') I
    .rintro⟨N|⟨y,N,rfl⟩,a',M⟩
     .refine⟨λe=>bb ?_,aK<|aP N a' (M.imp id λM=>by exact uQ M)⟩;intro o';subst e;refine aE M (λM=>?_) λM=>?_
      .rw[m']at M;exact uR M
      .rw[d']at M;exact pH M
     .exact b6 ((i y).mp N) λX q H'=>⟨q,a1<|aF y X I⟩
  .refine J I'<|bV b'.1.v (by refine J (fI b'.1.1)<|J b'.2 ?_;rfl) (λK=>by rw[du]at K;exact K.2.1 I) λy R=>?_;rw[du];intro e;by_cases K:ao y=ao x
   .exact r'<|bx K.symm e
   .haveI:=(z y R K).2;replace this:=e▸this;exact y4 w this
end
end
set_option backward.match.sparseCases false
section
variable{d n m:O}{s:aB}{c:aJ}{K:br}{G:U (U am)}{A:U am}{t:b3}
mutual
structure kZ(A:U am)(p:dD)(F:U am)(i:a3 am):Prop where
 a:∀x∈F,x∈A
 g:b0 F
 b:(i=au/\∃x∈F,-x∈F)\/∃w l,i=Y w/\cL p.l w l/\b0 (F.map ao)/\∀y,y∈l↔-y∈F
def aB.i(s:aB)(p:dD)(a:O->ba)(F:U am)(b:a3 am):aB:={s with e:=p,f:=a,n:=aD F,r:=b}
def Iv:bo:=.g (.a 8) (.x (.m dK (.i (.f (.c 0) 0 4)<|.c 2)<|.a 1) (.m dK (.i (.f (.c 0) 0 9)<|.a 0)<|.a 1)<|.v<|.a 1)<|.d (.b (.a 9)<|.n<|.i (.f (.c 0) 0 8)<|.c 8)<|.c (.t (.i (.f (.c 0) 0 18)<|.c 9)<|.l cB (.i (.f (.c 0) 0 3)<|.c 9)<|.q 3) (.f<|.o (.c 3)<|.i (.f (.c 0) 0 8)<|.c 8)<|.c (.i (.f (.c 0) 0 18)<|.c 9) (.d (.f<|.o (.c 5)<|.g<|.b (.c 9)<|.b (.i (.f (.c 0) 0 13)<|.i (.f (.c 0) 0 3)<|.c 9) .d)<|.f<|.j (.c 0) 0 59<|.b (.i (.f (.c 0) 0 3)<|.c 9)<|.b (.c 9)<|.b (.c 6)<|.b (.c 4) .d) .e
def ma(c:aJ)(d:am)(F:O)(l z W:V):U V:=[.b 0,.a d,.a (ao d),.e c.d,.e<|c.d+1,.e<|c.d+2,.e<|c.d+3,.a F,l,z,W]
inductive uo(n m:O)(s:aB)(b:am)(q:U am)(c:aJ)(F:O)(a:V)(h:O):U O->U V->aB->aJ->Prop|mk{p:U O}(d:O->ba)(A:U am)(k e:U O)(x:U (am×am))(l z:V)(f:aJ)(W:gr n m s b q (h-Z p:O) d A k e x)(i:fr c f (b::A) k x e)(Q:Z x<=Z p):uo n m s b q c F a h p (ma c b F l z a) (s.h d) f
theorem PI{Q:eX}{t:am}{X:U am}{G h K:O}{B:O->ba}{D E:U O}{y:aJ}{M N x10:V}(r:cD n m s.d)(T:bG n s.b)(g':cT n A s.b m s.a)(F':ir m s.a s.g s.e.l)(G':Z s.b.f<=100)(b':bt n t/\a4 s.b.b t=-1)(P:s.b.h (ao t)=h)(y':s.b.f[0]?=Y (K:am))(H':K<=h)(W:gr n m s t X h B [] D E [])(F:fr c y [t] D [] E)(I':∀B v D E u M N y,gr n m s t X K B v D E u->fr c y (t::v) D u E->Z u<=10->Q .b (ma c t G M N x10) (s.h B) y):bs (aO a2<|d+2) Iv Q (ma c t G M N x10) (s.h B) y:=by
 revert d n m s c A Q t X G h K B D E y M N x10;refine@Nx _<|h0 @(letI d:=_;letI n:=_;letI m:=_;letI s:=_;letI c:=_;letI A:=_;letI Q:=_;letI t:=_;letI X:=_;letI G:=_;letI h:=_;letI K:=_;letI B:=_;letI D:=_;letI E:=_;letI y:=_;letI M:=_;letI N:=_;letI x10:=_;(ic ?_:he _ _ _ _ _ _ _ d n m s c A Q t X G h K B D E y M N x10));intros;have z':=T.k;have w:=r.i;haveI h':=(T.e b'.1.2 λi'=>aA (c7.mpr i') (by refine J b'.2 ?_;decide)).2;replace h':=P▸h';haveI A':=mV z' w;have c':=fV y';have j':bS s.b.f 0 0-1=(s.b.h (ao t)-1)-(h-K:O):=J P<|J c'<|zO<|cy<|u8 H';refine fh I (r.h b'.1.2) I (eG (dB y')<|aH G' as) ⟨J P<|s4 ((aq [1,1,1] I:ap 2 0 [.b .g .j,.g .b<|.c 1000] (.b (.d .g .k)<|.p<|.c<|2^30)) (by assumption) (by assumption))<|@r8 _,J c'<|s4 ((aq [1,1,1,1] I:ap 3 0 [.g .a .b,.b .j .s,.g .f<|.c 1000] (.b (.d .g .k)<|.p<|.c<|2^30)) (by assumption) (by assumption) (by assumption))<|@r8 _⟩ ⟨a1 I,⟨O,b2<|h-K,λB'=>V.a<|(s.b.h (ao t)-1)-B',uo n m s t X c G x10 h,?_,⟨B,[],D,E,[],M,N,y,W,F,b4 _⟩,?_,?_⟩⟩
 .rintro C C' D' y _;exact v1 j'
 .intro C B' Z' C' D' y i' k';induction k' with|mk B v D E u M N y W F i=>?_;refine aM (lx i') λJ' l'=>?_;subst J';haveI H:Z (C++[Z C])=Z C+1:=bI;obtain⟨z,L⟩:∃z,h-Z C=z+1:=⟨h-Z C-1,u5<|cy<|(aq [1,1,1,1] I:ap 4 0 [.e .a .b,.g .b .f,.g .f<|.e .l .a] (.g .k .l)) l' (gC _ _)<|xJ<|b4 _⟩;have m':h-Z (C++[Z C])=z:=J H<|zY L (cy<|f4<|o3<|kd L)<|cy<|zX L<|cy<|f4<|o3<|kd L;refine(P.symm▸(z0 H m'<|cy<|zZ l' H<|gC _ _):(s.b.h (ao t)-1)-(Z C:O)=(z:O)).symm▸?_;replace W:=L▸W;have n':z<Z s.b.a:=(aq [1,1,0,1,1] I:ap 4 0 [.b .g .j,.a .f .l,.g .f .a] (.e .l .b)) (by assumption) (by assumption)<|gC _ _;refine bb ?_;intro K';refine bH (⟨_,cl n'⟩:∃x,s.b.a[z]?=Y x) λx q=>b6 (T.s z x q) λo' aa' ab'=>?_;have p':=r.f o'.2;have q':=r.j o'.2;have E':(z:am)<s.b.h (ao t):=J P<|(aq [1,1,0,0,1] I:ap 3 1 [.c .a .g,.c (.d (.d .a .k) .j) .s] (.b .s .g)) P (P.symm▸(z0 H m'<|cy<|zZ l' H<|gC _ _):(s.b.h (ao t)-1)-(Z C:O)=(z:O));refine b6 W.b λL' M' N'=>aP I (eG n' A') ((fV q).symm▸?_:bs _ _ _ [.b 0,.a t,.a t.natAbs,.e c.d,.e<|c.d+1,.e<|c.d+2,.e<|c.d+3,.a G,.a z,.a (s.b.a.getD z 0).natAbs,x10] _ _);have r':∀s' t' u' v' d' w',gr n m s t X z s' t' u' v' d'->fr c w' (t::t') u' d' v'->Z d'<=Z C+1->uo n m s t X c G x10 h (C++[Z C]) (ma c t G (.a z) (.a (ao x)) x10) (s.h s') w':=λs' t' u' v' d' w' O' P' Q'=>⟨_,_,_,_,_,_,_,_,J m' O',P',J H Q'⟩;refine bV I p' (λR=>bV I q' (λx'=>?_) λx'=>⟨I,p',λR'=>?_,λS=>?_⟩) λR=>⟨λS'=>aC S' ar,λR'=>⟨I,p',λS=>?_,λS=>(λT'=>r' _ _ _ _ _ _ (W.e T q T') F<|j0 i) S⟩⟩
  .haveI U':aD (t::v)++[V.a<|bS s.b.a z 0]=aD (t::v++[x]):=by rw[fV q,qK]
   exact sE (bO (.o _) F.p I bk) I (eG n' A') (aD<|t::v) F.p (J eI<|cX (fP<|aH N' w) as) bk<|r' B (v++[x]) D E u (y.i c.d<|.e<|aD (t::v)++[V.a<|bS s.b.a z 0]) (W.l T q R (bU x') E') (J U'<|F.i<|t::v++[x])<|j0 i
  .refine bb ?_;intro K';exact ch (hJ (g'.f _ o'.2<|T.h q) λV'=>(cg x') V'.1) λa' e' f' W'=>aM (g'.d a' f') λX' Y'=>fh (bO (.c _) F.e I bk) I q' I (J e'<|r.g f')<|dQ (ct u) F.e (by unfold ct;rw[bv];exact cX i (by refine(?_:Z C<16777216);omega)) bk (J (show ct u++[V.g [.a (ao x),.a<|s.g (bM (s.b.j (ao x)))]]=ct (u++[((ao x:am),s.g a')])from by refine J qJ<|J e' ?_;rfl)<|aP I q'<|Dn (aW V.a e') I r f' X' Y' (@uJ _) (F.h<|u++[((ao x:am),s.g a')]).n (F.h<|u++[((ao x:am),s.g a')]).b (uL w L') (uL w M')<|r' _ v _ _ _ _ (W.o w T g' F' b' q R e' f' W' E') (((F.h<|u++[((ao x:am),s.g a')]).j _).g _)<|J bI<|fP i:bs _ _ _ (ma c t G (.a z) (.a (ao x)) x10) (s.h B) (y.i (c.d+2)<|.e<|ct u++[V.g [.a (ao x),.a<|s.g (bM (s.b.j (ao x)))]]))
  .exact tB<|(R).symm.trans S
  .exact tB<|(show B (ao x)=ax from R).symm.trans S
 .intro C' D' y k';induction k' with|mk B v D E u M N y W F i=>?_;rw[ec]at W i;rw[show h-(h-K)=K from(dR [1,0,1,1,0,0,1,1] [1,1,0,0,1,1,0,0,1] I I:ap 4 2 [.c .a .g,.c .b .j,.c (.d .b .k)<|.d (.d .a .k) .s,.a (.e .l .f) .a] (.a .l .b)) P c' j'<|cy<|(aq [1,1,0,0,1,1] I:ap 3 2 [.c .a .g,.c .b .j,.c (.d .b .k)<|.d (.d .a .k) .s] (.g .f .a)) P c' j']at W;exact I' B v D E u M N y W F<|aH i<|aH (gC _ _)<|f4<|ci (eN.mp h')<|aH z'<|aH w as
end
end
section
variable{d n m q X M:O}{s:aB}{c:aJ}{K:br}{G:U (U am)}{A:U am}{t:b3}
mutual
theorem GD:fr c ((((c.b<|.e<|aD R).b<|.e<|bQ T).b<|.e<|ct P).b<|.e<|bQ D) R T P D:=⟨b4 _,λj s=>(aG<|bj<|mw 3 s).trans<|(aG<|bj<|mw 2 s).trans<|(aG<|bj<|mw 1 s).trans<|aG<|bj s,I,(aG<|bj<|j1 (k:=3) as).trans<|(aG<|bj<|j1 (k:=2) as).trans<|(aG<|bj<|b7 _).trans aR,(aG<|bj<|kT (as:1<3) c.d).trans<|(aG<|bj<|kT (as:1<2) c.d).trans aR,(aG<|bj<|kT (as:2<3) c.d).trans aR,aR⟩
theorem gr.a{c:am}{F h:O}{o:U am}(T:n<=4)(o':bG n s.b)(a':cT n A s.b m s.a)(P:∀u,u<=n->s.f u=ax)(j:bt n c/\a4 s.b.b c=-1)(Q:s.b.h (ao c)=h)(b':s.b.e (ao c)≠0)(c':F<m)(R:hD s.b (s.a F) (ao c))(p':cL s.e.l (s.g F) o)(d':eu o)(e':∀x,x∈o↔x∈s.a F):gr n m s c o h (cE (aw s.f (ao c) an) (cq (aw s.f (ao c) an) (ao c)<|s.a F) an) [] ([]++d9 s.b (cq (aw s.f (ao c) an) (ao c)<|s.a F)) ([ao c]++(cq (aw s.f (ao c) an) (ao c)<|s.a F).map ao) []:=by
 revert n m s A c F h o;refine@fk _<|e0 @(letI n:=_;letI m:=_;letI s:=_;letI A:=_;letI c:=_;letI F:=_;letI h:=_;letI o:=_;(e3 ?_:eE _ _ n m s A c F h o));intros;refine aM (a'.d F c') λw H=>?_;let N:=cq (aw s.f (ao c) an) (ao c)<|s.a F;have l:∀y,y∈N↔y∈s.a F/\ao y≠ao c:=λy=>by unfold N cq;rw[eq,ip];exact⟨λg=>⟨g.1,g.2.1⟩,λg=>⟨g.1,g.2,J (aG g.2)<|P _ (w y g.1).2⟩⟩
 have t:∀u:O,u<=n->(cE (aw s.f (ao c) an) N an u=an↔u=ao c\/∃y∈s.a F,ao y≠ao c/\ao y=u):=λu K=>by
  rw[ie];constructor
  .rintro(g|⟨y,g,rfl⟩)
   .by_cases e:u=ao c
    .exact aK e
    .replace g:=(P u K)▸(aG e)▸g;exact aC g ar
   .exact a1<|bO y ((l y).mp g).1 ((l y).mp g).2 I
  .rintro(rfl|⟨y,X,f,rfl⟩)
   .exact aK aR
   .exact a1<|aF y ((l y).mpr ⟨X,f⟩) I
 have L:∀y∈s.a F,ao y≠ao c->a4 s.b.b y=-1/\s.b.h (ao y)<h:=λy C D=>⟨(R.2 y C D).1,az Q (R.2 y C D).2⟩;have f':∀u,u∈d9 s.b N↔∃y∈N,s.b.e (ao y)=0/\ao y=u:=λu=>by unfold d9;rw[bL];exact⟨λr=>ay r λy G b=>aM (eq.mp G) λg' q=>bO y g' (fa q) b,λr=>ch r λy G b e=>aF y (eq.mpr ⟨G,fC b⟩) e⟩
 have W:-c∈s.a F:=by
  refine ch R.1 λx h' i' p=>?_;rcases gd i' with rfl|rfl
  .rw[j.2]at p;exact aA p as
  .exact h'
 refine⟨λu K g=>?_,λu=>?_,?_,λu=>?_,kv (kv H _) _,λx=>?_,fm,?_,.d⟩
 .rcases(t u K).mp g with rfl|⟨y,X,f,rfl⟩
  .exact⟨λe=>aA (c7.mpr e)<|J j.2 as,gz _⟩
  .exact⟨(λy C D e=>aA (c7.mpr e)<|J (L y C D).1 as) y X f,J Q<|jY (L y X f).2⟩
 .rw[cK,b9,bL];constructor
  .rintro(rfl|⟨y,X,rfl⟩)
   .exact⟨j.1.2,(t _ j.1.2).mpr<|aK I⟩
   .exact aM ((l y).mp X) λf i=>⟨(w y f).2,(t _ (w y f).2).mpr<|a1<|bO y f i I⟩
  .rintro⟨X,f⟩;rcases(t u X).mp f with rfl|⟨y,i,k,rfl⟩
   .exact aK I
   .exact a1<|aF y ((l y).mpr ⟨i,k⟩) I
 .rw[fN];refine aP (dO.mpr ⟨fO,fm⟩) (kv H _) λG j' b k' e=>ay (bL.mp k') λy X l'=>?_;subst l';exact((l y).mp X).2<|az e<|az (b9.mp j') I
 .refine(?_:u∈d9 s.b N↔_);rw[f'];constructor
  .rintro⟨y,X,f,rfl⟩;exact aM ((l y).mp X) λi k=>aP (w y i).2 ((t _ (w y i).2).mpr<|a1<|bO y i k I) f
  .rintro⟨X,f,i⟩;rcases(t u X).mp f with rfl|⟨y,k,B,rfl⟩
   .exact aA i b'
   .exact bO y ((l y).mpr ⟨k,B⟩) i I
 .refine⟨λg=>aC g ar,λr=>lE r λX f i k B M=>bb ?_⟩;intro q';rcases(t _ X.2).mp i with g|⟨y,S,m',n'⟩
  .exact aA g B
  .exact aA (az n' (L y S m').2)<|gW.mpr M
 .refine ?_;refine lz (cW.e T λz E=>J E<|aP j.1.v (J (fI j.1.1)<|J j.2 I) (λg=>by rw[du]at g;exact g.2.1 I)) d'.1 λz=>?_
  .rw[e'];constructor
   .intro E;by_cases e:ao z=ao c
    .rcases gd e with rfl|rfl
     .haveI:=ls H E W (by rw[du]);haveI:=j.1.1;exact be (z3 (by assumption) (by assumption))
     .exact aK I
    .exact a1<|fg (w z E) (L z E e).1 ((t _ (w z E).2).mpr<|a1<|bO z E e I) e<|a1 (L z E e).2
   .rintro(rfl|⟨X,f,i,k,_⟩)
    .exact W
    .refine aE ((t _ X.2).mp i) (λg=>aA g k) λr=>ch r λy B M S=>?_
     .rcases gd S with rfl|rfl
      .exact B
      .haveI:=(L _ B M).1;rw[fI X.1,f]at this;exact aA this as
theorem PG{t:am}{D:V}(e':D=.a t)(N:cp G A n m q X M s)(V':A[(Z s.b.f)]?=Y t)(Q:bt n t/\a4 s.b.b t=-1)(aX':s.r=au)(k':∀E H B L C,mT s.e E->dp G n m s.b s.a s.g E->(∀r:O,r<=n->H r=ax)->kZ A E B L->aT c C->K .z (s.i E H B L) C):aO a2 (d+9) 58 [.b 0,D] (bJ K)<|aL s c:=by
 revert D;revert d n m q X M s c K G A t;refine@hs _ ?_;refine eZ @(letI d:=_;letI n:=_;letI m:=_;letI q:=_;letI X:=_;letI M:=_;letI s:=_;letI c:=_;letI K:=_;letI G:=_;letI A:=_;letI t:=_;(e2 ?_:eD _ _ _ d n m q X M s c K G A t));intros;subst e';have c':=N.b;have f':=c'.i;have r':s.b.b (ao t)≠0:=λP=>aA (c7.mpr P) (by refine J Q.2 ?_;decide);have aY':=c'.e Q.1.2;have ao':=c'.j Q.1.2;haveI W':=dZ V';haveI X':=N.l.1;haveI bO':=N.l.2;refine cb I I I ?_;refine dM ?_;intro bP' bQ';refine bV I aY' (λm'=>?_) λm'=>⟨I,ao',λg'=>?_,λg'=>?_⟩
 .let A':aB:={s with n:=aD [t]};let O':aJ:={c with e:=dz c.e 0 23};refine na I ar A' I (λq=>aC q ar) λT=>?_;refine Dy (s:=A') (p:=s.e) (A:=A) I N.c ⟨c',N.j,N.o,N.c,ee.j,aH X' as⟩ Q.1.2 r' (bU m') λE C w y s' d' bR' aZ' bS' ba' ap' aq' bT'=>?_;refine eP I ar (s.i E s.f [t]<|Y w) I<|k' E s.f [t] (Y w) _ d'.a s'.c N.h ⟨λD e'=>J (b9.mp e') W',dO.mpr ⟨fO,fm⟩,a1 ⟨w,[y],I,aZ',dO.mpr ⟨fO,fm⟩,λh'=>?_⟩⟩ ⟨aq'.d,aq'.a⟩;rcases gd ba' with rfl|rfl
  .rw[show A'.b.b=s.b.b from I,Q.2]at ap';exact aA ap' as
  .rw[b9,b9];exact⟨λP=>by rw[P,fl],λP=>by rw[<-P,fl]⟩
 .have bb':-t∈A:=by
   refine ch (N.o.m _ Q.1.2 r' (bU g') (by exact y5 (dB V') (N.j.a _ Q.1.2 r').2)) λy S n' G'=>?_;rcases gd n' with rfl|rfl
   .rw[Q.2]at G';exact aA G' as
   .exact S
  haveI bc':b0 [-t,t]:=dO.mpr ⟨λx=>by haveI:=b9.mp x;haveI:=Q.1.1;exact u6 (by assumption) (by assumption),dO.mpr ⟨fO,fm⟩⟩;haveI B':=k' s.e s.f [-t,t] au {c with e:=dz c.e 0 23} ee.j.a N.c N.h ⟨λD e'=>aE (cu.mp e') (λP=>J P bb') λP=>J (b9.mp P) W',bc',aK<|md I t (cm _<|gA _)<|bu ..⟩ ⟨b4 _,λT T=>I⟩;haveI bd':s.i s.e s.f [-t,t] au={s with n:=aD [-t,t]}:=by refine az aX' ?_;rfl
  rw[bd']at B';exact eP I ar _ I B'
 .have m':¬s.b.e (ao t)=0:=cg m';have g':=cg g';refine ch (hJ (N.o.f _ Q.1.2 r') λx=>g' x.1) λi' be' C' bf'=>?_;refine aM (N.o.d i' C') λbg' bh'=>?_;refine ay (N.c.d i' C') λY' H' bi'=>?_;haveI bj':=N.c.c.b _ _ H';obtain⟨Z',B'⟩:∃Z':O,s.b.h (ao t)=Z':=⟨bM (s.b.h (ao t)),by haveI:=(N.j.e Q.1.2 r').1;exact u7<|eU<|l2 this⟩;haveI aa':=N.j.a _ Q.1.2 r';have ar':0<Z s.b.f:=by exact(ku [1,0,1] [1,1,0,1] I I:ap 1 1 [.j .a .i,.d .i .a,.d .a .g] (.e .i .a)) m' aa'.1 aa'.2
  obtain⟨D',ab'⟩:∃D':O,s.b.f[0]?=Y (D':am):=⟨bM s.b.f[0],by exact J (cl ar')<|J (eU (N.j.d _<|kN ar').1) I⟩;haveI bk':D'<=Z':=by haveI:=N.j.b _ Q.1.2 r' 0 _ ab';exact tN λbl'=>m'<|tE (this.mp (by rw[B'];exact eN.mpr bl')) aa'.1
  refine ko I ao' I I I I<|aP I I ?_;let O':=(((c.b<|.e<|aD [t]).b<|.e<|bQ []).b<|.e<|ct []).b<|.e<|bQ [ao t];refine(?_:bs _ _ _ [.b 0,.a t,.a (ao t),.e c.d,.e<|c.d+1,.e<|c.d+2,.e<|c.d+3,.a<|s.b.j (ao t),.d,.d,.d] s O');refine J be' ?_;haveI ac':fr c O' [t] [] [] [ao t]:=GD;haveI bm':=c'.f Q.1.2;let A':=s.h<|aw s.f (ao t) an;refine bV I bm' bk<|aF A' I<|Dn (s:=A') (c:=O') (cc:=i') (sk:=ao t) I I c' C' bg' bh' (by exact@uJ _) ac'.n ac'.b (by decide:1<=100) as ?_;refine bN<|PI (s:=s) (x10:=.d) c' N.j N.o N.c.d (aH N.E as) Q B' ab' bk' (gr.a f' N.j N.o N.h Q B' m' C' bf' H' bj' bi') ((ac'.j _).g _) λad' bn' as' at' R ae' I' bU' W t' bo'=>?_;refine b6 W.b λbV' au' av'=>?_;refine bN<|wZ (F:=λI'=>ma c t i' ae' I' .d) (vs:=at') c' (λa' u'=>((W.h a').mp u').1) (λT=>I) (λT=>I) (λT T=>I) (λT=>I) (λaw' J'=>eB I ar J') t'.n λI'=>?_;let v':=iI ad' at' ax;haveI ax':∀r:O,r<=n->v' r=ax:=λr P'=>by cases bp':v' r with|false=>rfl|true=>refine aM (xe.mp bp') λbq' Q'=>?_;exact aA ((W.h r).mpr ⟨P',bq'⟩) Q'
  let ay':=(s.h ad').h v';have br':=λa' u'=>by refine b6 ((W.c a').mp u') λj' S n'=>?_;exact aP j' (W.d a' j' S).1 n'
  have o':=t'.d;refine⟨bO (.c _) t'.e I bk,w0 (s:=ay') (p:=s.e) (A:=A) (vs:=as') N.c ⟨c',N.j,N.o,N.c,ee.j,aH X' as⟩ (oa t'.b) ar br' (by exact yW f' au') λE az' bW' p' bs' g' af' s' d' w' bX' bt' bY' bu'=>?_⟩;haveI bv':=(w'.a _ (by exact(aq [1,1] I:ap 2 0 [.g (.e .a<|.c 4) .b] (.e (.e .a<|.c 2) .b)) o')).trans t'.e;haveI aA':∀R:U<|am×am,dA (ct R):=λR a' u'=>by refine ay (bL.mp u') λy T bw'=>?_;refine az bw' ?_;trivial
  haveI aB':∀R:U<|am×am,Z (ct R)=Z R:=λT=>bv ..;haveI bx':Z p'=Z as':=by haveI:=aW Z af'.a;rw[bv,bv,fK g']at this;exact this
  have aC':Z R+Z p'<=60:=by exact(aq [1,1,1,1,1] I:ap 4 0 [.g .a<|.c 4,.g .b<|.c 10,.g .f<|.h .a,.a .l .f] (.g (.e .b .l)<|.c 60)) f' bo' au' bx'
  refine sG (by exact(aq [0,1,1,1] I:ap 3 0 [.g (.e .a<|.c 4) .b,.g .b .f] (.h (.e .a<|.c 2) .f)) o' bt') (ct R) (ct p') bv' bu' (aA' _) (aA' _) (by rw[aB',aB'];exact aH aC' as) ?_;let ag':=az'.i (c.d+2)<|.e<|ct<|R++p';let aD':=ay'.w E;let B:=t::bn';refine(?_:bs _ _ _ (ma c t i' ae' I' .d) aD' (az'.i (c.d+2)<|.e<|ct R++ct p'));refine J dY.symm ?_;have aE':ag'.a c.d=Y (.e<|aD B):=(aG (by exact@uK _)).trans<|(w'.a _ (by exact(aq [1,1] I:ap 2 0 [.g (.e .a<|.c 4) .b] (.e .a .b)) o')).trans t'.p;haveI by':(b1.o B).k<=bi:=aH (fP<|aH av' f') as;let R':aB:={aD' with n:=aD B};let ah':aJ:={ag' with e:=dz ag'.e 0 23};refine h2 (.o B) aE' I I (gw B) by'<|eP I ar R' I ?_;refine(?_:bs _ _ _ (ma c t i' ae' I' .d) R' ah');let E':=B.map λy=>-y;have bz':B.map (λy=>V.a<|-y)=aD E':=by refine(?_:_=(B.map λy=>-y).map V.a);refine J go ?_;rfl
  have aF':=λy K'=>aP ((W.f y).mp K').1 ((W.f y).mp K').2.1 ((W.f y).mp K').2.2.2.2.1;have S':b0 (B.map ao):=by rw[iO,dO];refine⟨λx=>?_,W.g⟩;refine ay (bL.mp x) λy j' S=>?_;exact(aF' y j').2.2 S
  have aG':b0 B:=(iQ.mp S').imp λ{aH' aI'}k' P=>k'<|aW ao P;have aJ':b0 (E'.map ao):=by refine J go ?_;haveI:(ao∘λy=>-y)=ao:=jy λy=>du y;exact J this S'
  have ai':∀y,y∈E'↔-y∈B:=λy=>by rw[bL];exact⟨λbA'=>ay bA' λh' aH' aI'=>by rw[<-aI',fl];exact aH',λk'=>aF (-y) k'<|fl y⟩
  have aK':∀D∈B,D∈A:=λD e'=>by
   rcases cu.mp e' with rfl|e'
   .exact W'
   .refine lE ((W.f D).mp e') λb' x' F' q' L' M'=>?_;have aL':s.b.b (ao D)≠0:=λP=>aA (c7.mpr P) (by refine J x' ?_;decide);refine ch (N.o.m _ b'.2 aL' q' (by exact y5 (dB V') (N.j.a _ b'.2 aL').2)) λy S n' G'=>?_;rcases gd n' with rfl|rfl
    .exact S
    .rw[fI b'.1,x']at G';exact aA G' as
  refine bb ?_;intro bZ';refine bH d'.l λP aM'=>?_;have aj':=λa'=>tC g'.mem_iff<|W.c a';have ak':∀r:O,r<=n->s.b.b r≠0->(s.b.h r<D'↔s.b.e r=0):=λr P' aN'=>by haveI j':=N.j.b r P' aN' 0 _ ab';haveI S:=(N.j.a r P' aN').1;exact tC j' ⟨λD=>tE D S,jm⟩
  haveI aO':∀{aP':O->Prop},¬aP' (ao t)->∀h',h'=-t->bt n h'/\a4 s.b.b h'=1/\¬aP' (ao h'):=λbB' h' y'=>by refine J y' ?_;exact aP Q.1.v (by refine J (fI Q.1.1)<|J Q.2 ?_;rfl) (by rw[du];exact bB')
  have al':∀w:U am,hA E' w->c4 E.l Y' (R++p') w:=λw z'=>by
   haveI Q':=af'.g f' N.j (g'.nodup_iff.mpr W.i) (λa' u'=>by refine b6 ((aj' a').mp u') λj' S n'=>?_;exact aP S (λP=>m'<|az P n')<|a1<|(ak' a' j' (W.d a' j' S).1).mpr n') (aO' λx=>x.2.1 I)<|J aM' W.j.f;haveI bC':ea (cW n s.b (λD=>D=-t) λr=>r∉bs'/\ad' r=an/\r≠ao t/\(s.b.j r=-1\/s.b.h r<D'))=w:=by
    refine(lz (cW.e f'<|aO' λx=>x.2.2.1 I) (z'.j aJ') λh'=>?_).symm;rw[z'.h,ai'];constructor
    .intro y';refine aE (cu.mp y') (λy'=>?_) λy'=>?_
     .exact aK (by rw[<-y',fl])
     .refine lE ((W.f _).mp y') λb' x' F' q' L' M'=>?_;haveI N':=b'.v;rw[fl]at N';rw[fI N'.1]at x';rw[du]at F' q' L' M';refine a1<|fh N' (by exact sb x') (λx=>?_) F' L'<|aK q';haveI:=(ak' _ N'.2 (W.d _ N'.2 F').1).mpr ((aj' _).mp x).2.2;exact r2 M' this
    .rintro(rfl|⟨b',x',F',q',L',M'⟩)
     .rw[fl];exact bu ..
     .have aQ':¬s.b.h (ao h')<D':=λx=>F'<|(aj' _).mpr ⟨b'.2,q',(ak' _ b'.2 (W.d _ b'.2 q').1).mp x⟩;refine cm _<|(W.f _).mpr<|aP b'.v (by refine J (fI b'.1)<|J x' ?_;rfl) ?_;rw[du];exact bV q' (M'.resolve_right aQ') L' (by exact(aq [1,1] I:ap 1 1 [.f<|.b .a .g] (.d .g .a)) aQ')
   rw[bC']at Q';exact Q'
  have aR':fc E.l (hb n m E s.g)<|R++p':=fc.q (J aM'<|W.p.f λw=>el.c d'.q (b4 _) λT T=>I) af'.e;haveI bD':=c'.g C';haveI bE':Z E.l<=210:=by refine ch s'.c.b.f λca' bF' bG' T=>?_;refine ay N.c.b.f λcb' bH' T=>?_;haveI:=N.j.k;exact(aq [1,1,1,1,1,0,0,1,1,1] I:ap 6 2 [.g .a<|.c 4,.g .b<|.c 200,.d (.d .s .j)<|.d .a .b,.c .a .u,.c .b .v,.g .l .g,.g .g .a] (.g .f<|.c 210)) f' X' d'.k bF' bH' bG' this
  haveI bI':aT c ah':=⟨by haveI:=w'.d;exact(aq [1,1,1] I:ap 3 0 [.g (.e .a<|.c 4) .b,.g .b .f] (.g .a .f)) o' this,λaS' am'=>(aG (by exact r1 am')).trans<|(w'.a aS' (by exact(aq [1,1,1] I:ap 3 0 [.g (.e .a<|.c 4) .b,.e .f .a] (.e .f .b)) o' am')).trans<|t'.f aS' am'⟩;haveI bJ':Z B<=1000:=aH (fP<|aH av' f') as;haveI bK':Z E'<=4:=by
   refine aH (hk (n:=n) (λy K'=>?_) aJ') f';haveI:=(ai' y).mp K';refine aE (cu.mp this) (λx=>?_) λx=>?_
   .haveI:=Q.1.v;rwa[<-x,fl]at this
   .haveI:=(aF' _ x).1.v;rwa[fl]at this
  refine dW<|h9 I<|d7<|kg<|d7<|lc B V.a (λy=>V.a<|-y) (λaw' J'=>eB I ar J') I (fW aE') bJ' (λT T=>ar) (λy T aw' J'=>J') ?_;refine J bz' ?_;let bL':=ah'.b<|.e<|aD E';refine oI (s:=R') (c:=bL') (hS.e (b7 _) aR) bK' λw aT' z' cc' an' cd'=>?_;haveI bM':=(an'.a _ (by haveI:=w'.d;exact y6 o' this)).trans<|((aT.b _).a _ (by haveI:=w'.d;exact(aq [1,1,1] I:ap 3 0 [.g (.e .a<|.c 4) .b,.g .b .f] (.e (.e .a<|.c 2) .f)) o' this)).trans aR;haveI bN':c.d+2<aT'.d:=ci (by haveI:=w'.d;exact y6 o' this) an'.d;haveI aU':∀T',aT aT' T'->aT c T':=λT' U'=>(bI'.i<|(aT.b _).i an').i U';haveI aV':=λy=>(z'.h y).trans<|ai' y;refine⟨I,bD',tl (s:=R') (l':=w) I I s'.c.c.b (aH bE' as) (d'.b H') (al' w z') aR'.e (by exact J bI<|(aq [1,1] I:ap 2 0 [.g (.e .a .b)<|.c 60] (.g (.e .a .b)<|.c 100)) aC') bN' bM' (λP=>?_) λce' P T' U' cf'=>?_⟩
  .have:=al' w z';replace this:=P▸this;obtain rfl:Y'=w:=this;exact eP I ar (s.i E v' B<|Y<|s.g i') I<|k' E v' B _ _ d'.a s'.c ax' ⟨aK',aG',a1 ⟨_,Y',I,d'.b H',S',aV'⟩⟩<|aU' _ ⟨b4 _,λT T=>I⟩
  .let aW':dD:={E with l:=E.l++[le (s.g i') (R++p') w],b:=P};exact eP I ar (s.i aW' v' B<|Y (Z E.l)) I<|k' aW' v' B _ _ (d'.u _ P) (s'.c.a<|s'.c.c.d (d'.b H') (al' w z') aR' (aK ⟨i',C',I⟩) P) ax' ⟨aK',aG',a1 ⟨_,w,I,cL.d,S',aV'⟩⟩<|aU' _ ⟨U'.d,U'.a⟩
end
end
section
variable{d n m q X M:O}{s:aB}{c:aJ}{K:br}{G:U (U am)}{A:U am}{t:b3}{a:db}
mutual
theorem cp.N(a:cp G A n m q X M s)(o:s.b.g=Z s.b.a)(l:ck s.b m s.a (Z s.b.a))(T:Z s.b.f<Z A)(c:∀S,A[(Z s.b.f)]?=Y S->bt n S/\a4 s.b.b S=1):cp G A n m q X M {s with b:=s.b.o}:=⟨a.b,a.j.o o,a.o.o a.j a.D l a.w c,a.w,a.x,⟨a.c.b.o,a.c.d,a.c.c⟩,a.k,a.d,a.y,a.h,a.t,(by refine(?_:Z (s.b.f++[_])<=_);exact J bI<|aH T<|js ..),a.p,a.z,a.a,a.f,a.g,a.B⟩
theorem cp.H(a:cp G A n m q X M s)(o:s.b.g=Z s.b.a)(l:ck s.b m s.a (Z s.b.a))(f:bt n S)(d:a4 s.b.b S=0)(h:Z s.b.f<Z A->S∈A)(k:∀a',A[(Z s.b.f)]?=Y a'->a'=S)(p:cZ n W)(r:W.d=s.c.d)(t:W.b=s.c.b)(w:∀T,1<=T->T<=n->s.b.b T=0->T≠ao S->0<=W.c T):cp G A n m q X M {s with b:=s.b.o.i S<|-1,c:=W,j:=b'}:=by
 refine⟨a.b,(a.j.o o).i (-1) f d,a.o.k a.j a.D l a.w o f d h k,ew.i a.w d,a.x,⟨a.c.b.o.i (a.j.o o) f d,a.c.d,a.c.c⟩,p,⟨a.d.b,J t a.d.a,λv P=>J r<|a.d.c v P⟩,a.y,a.h,λT z B g=>?_,?_,a.p,a.z,a.a,a.f,a.g,a.B⟩
 .haveI g:aw s.b.b (ao S) (ib S) T=0:=g;by_cases e:T=ao S
  .subst e;rw[aR]at g;unfold ib at g;split at g<;>exact aA g as
  .rw[aG e]at g;exact w T z B g e
 .refine(?_:Z (s.b.f++[_])<=_+Z (s.b.a++[S]));exact J bI<|J bI<|lJ a.D 1
theorem P4(S:x=.e C)(L':C<c.d)(m':c.a C=Y (.e<|aD A))(L:cp G A n m q X M s)(w':∀y∈A,bt n y)(x':s.r=au)(T:s.b.g=Z s.b.a)(d':ck s.b m s.a (Z s.b.a))(y':∀E D F H r,mT s.e E->dp G n m s.b s.a s.g E->(∀u,u<=n->D u=ax)->kZ A E F H->aT c r->K (.p "unsat") (s.i E D F H) r)(i':∀l r,cp G A n m q X M l->ck l.b m l.a l.b.g->rW s l->l.a=s.a->Z l.b.f=Z s.b.f+1->aT c r->K (.p "") l r)(z':∀z,cp G A n m q X M (s.o z)->(∀v,1<=v->v<=n->s.b.b v≠0)->Z A<=Z s.b.f->K (.p "sat") (s.o z) c):aO a2 (d+10) 56 [.b 0,x] (bJ K)<|aL s c:=by
 refine J S<|have j':=L.E;have g':Z s.b.f<=100:=aH j' as;have W:=L.b;have h':Z s.b.a<=100:=uM L.j.k W.i;have n':=L.B;cb I I I<|dM ?_;intro M' N';refine bN<|oJ g'<|h1 (.o A) m' I (aH n' as) (λN=>?_) λN=>?_
 .have N:=eN.mp<|bU N;refine bH (show∃y,A[(Z s.b.f)]?=Y y from⟨_,cl N⟩) λA' e'=>have b':=w' A'<|dZ e';bN<|dW<|oJ g'<|bO (.o A) m' I<|aK ⟨eG N<|aH n' as,(J (fV e') ?_:bs _ _ _ [.b 0,.e C,.a<|bS A (Z s.b.f) 0,.d] s c)⟩;refine bN<|jS I W b' ⟨λB=>bN<|PG I L e' ⟨b',bU B⟩ x' λE D F H r B' C' D' E' F'=>y' E D F H r B' C' D' E' F',λB=>?_⟩
  .let k':={s with b:=s.b.o};refine bN<|Dm h' g'<|bN<|jS (s:=k') I W b' ⟨λw=>?_,λw=>?_⟩
   .have w:=bU w;exact qz I I W b' (J (show Z k'.b.f=Z s.b.f+1 from bI)<|y7 j') h'<|i' _ _ (L.H T d' b' w (λf'=>dZ e') (λy c'=>by rw[e']at c';exact(bE c').symm) L.k I I λu P Q R f'=>L.t u P Q R) (ck.i (t:=s.b.o) w (jm T)<|J T d') ⟨I,I⟩ I bI aT.j
   .have G':=hJ (L.j.w b') (cg w)|>.resolve_right (cg B);refine i' k' c (L.N T d' N λy c'=>?_) (J T d') ⟨I,I⟩ I bI aT.j;rw[e']at c';exact az (bE c') ⟨b',G'⟩
 .haveI N:=cg N;have N:Z A<=Z s.b.f:=(aq [1,1] I:ap 2 0 [.f<|.b .g .j] (.g .b .a)) N;refine bN<|dW<|PC I W.p (aW dn.b W.d) L.k λv z a' o'=>?_;have p':=λu P Q R l'=>a'.e u P Q (L.t u P Q R) R l';refine bN ⟨λB=>?_,λB=>?_⟩
  .refine aM (o'.resolve_right λw=>(aq [1,0,1] I:ap 1 0 [.c .g .i,.g .k .a] .i) (bU B:(v:am)=0) w.1) λO' H'=>?_;have q':∀u,1<=u->u<=n->s.b.b u≠0:=λu P Q R=>by refine ay (a'.k.g u Q<|p' u P Q R<|(aq [1,0,1,0,1] I:ap 2 0 [.c .g .i,.g .k .b] (.h .b .a)) (bU B:(v:am)=0) P) λP' f' w=>?_;rw[H']at w;exact aC w ar
   exact PH<|z' z ⟨L.b,L.j,L.o,L.w,L.x,L.c,a'.k,⟨L.d.b,J a'.a L.d.a,λu I'=>J a'.d<|L.d.c u I'⟩,L.y,L.h,λu P Q R=>aA R<|q' u P Q,L.D,L.p,L.z,L.a,L.f,L.g,L.B⟩ q' N
  .refine b6 (hJ o' λw=>(cg B)<|J w.1 I) λJ' r' K'=>?_;let s':={s.o z with j:={s.j with b:=s.j.b+1}};let t':={s' with b:=s.b.o};haveI u':∀x:am,ao x=v->aO a2 (d+9) 32 [.b 0,.a x,.a<|-1] (bJ λf'=>bs (aO a2<|d+9) (.a<|.p "") (eg K) [.b 0,.e C,.d,.a v]) (aL t' ({c with e:=dz c.e 0 27}:aJ)):=λx S=>by haveI v':bt n x:=⟨λw=>by replace S:=w▸S;exact aA S.symm<|gB J',J S r'⟩;haveI w:=c7.mpr<|J S K';exact qz I I W v' (J (show Z t'.b.f=Z s.b.f+1 from bI)<|y7 j') h'<|i' _ _ (L.H T d' v' w (λw=>aA w<|kV.mpr N) (λy c'=>aA (dB c')<|kV.mpr N) a'.k a'.d a'.a λu P Q R l'=>p' u P Q R<|az S l') (ck.i (t:=s.b.o) w (jm T)<|J T d') ⟨I,I⟩ I bI ⟨b4 _,λf' f'=>I⟩
   exact bN<|eP I (λq=>aC q ar) s' I<|bN<|Dm h' g'<|bN<|vM<|h9 I<|d7<|bV I (W.o r') (λw=>u' v I) λw=>u' (-v)<|du _
theorem cp.C(b:cp G A n m q X M s)(P:gu n A m s.b s.a t a S):cp G A n m q X M<|s.q t a S:=by
 refine bH P.s λe f=>⟨b.b,P.j,P.o,P.w,P.x,b.c.C b.j P,b.k,b.d,b.y,b.h,λu k j h=>b.t u k j<|jl λg=>?_,(P.f.symm▸(J f<|J bI<|aH b.D<|iR (js ..) _):t.f.length<=_+t.a.length),b.p,λg l=>ay (b.z g l) λc d o=>aF c d λx=>(P.k c d).mem_iff.trans<|o x,aH (iR (td (b4 _) P.k) _) b.a,b.f,b.g,b.B⟩
 .refine cF (b.j.c u j g) λi x d B=>?_;subst B;exact P.j.h (J f<|li d) h
theorem cp.P(a:cp G A n m q X M s)(h:s.b.f=[])(e:Z S<=20):cp G S n m q X M s:=by
 refine⟨a.b,a.j,⟨a.o.f,a.o.d,a.o.l,λv f i j p=>?_,λk y p C=>?_,λk x d=>?_⟩,a.w,a.x,a.c,a.k,a.d,a.y,a.h,a.t,(by unfold iq;exact J h<|f7 _),a.p,a.z,a.a,a.f,a.g,e⟩
 .refine bb ?_;intro l;refine aE (a.o.f v f i) (λb=>aM b λp g=>?_) λb=>ay b λc g p=>?_
  .rw[h]at g;exact aC g ar
  .rw[j]at g;exact be (Ad g)
 .rw[h]at C;exact aA C<|my _
 .rw[h]at d;exact aC d ar
theorem cp.r(a:cp G A n m q X M s){k p:O}(C:s.b.f[k]?=Y (p:am))(H:nU n s (λS=>0<=s.c.c S\/∃T∈s.b.a.drop p,ao T=S) W):cp G A n m q X M<|s.y (s.b.r k p) a' W:=by
 refine⟨a.b,a.j.r C,a.o.r a.j C,a.w.r a.j (λc i=>(a.o.d c i).1) C,a.x,⟨a.c.b.r a.j C,a.c.d,a.c.c⟩,⟨H.1.b,H.1.g⟩,⟨a.d.b,J H.2.2.1 a.d.a,λS h=>J H.2.1<|a.d.c S h⟩,a.y,a.h,λS j e h=>haveI h:cE s.b.b (s.b.a.drop p) 0 S=0:=h;(H.2.2.2 S e).mpr<|aE (eo<|∃T∈s.b.a.drop p,ao T=S) (λd=>a1 d) λd=>?_,iq.r a.j a.o C,a.p,a.z,a.a,a.f,a.g,a.B⟩
 .rw[iH d]at h;exact aK<|a.t S j e h
theorem wU(l:x=.a (0:O))(j:cp G A n m q X M s)(W:ck s.b m s.a s.b.g)(h:∀e i,cp G A n m q X M e->ck e.b m e.a e.b.g->e.b.f=[]->rW s e->e.e=s.e->e.a=s.a->aT c i->K .z e i):aO a2 (d+4) 34 [.b 0,x] (bJ K)<|aL s c:=jR l j.b j.j j.k (aH j.E as) (λo=>h s c j W (iN.mp<|SU.mp o) ⟨I,I⟩ I I aT.j) λp k f u i r v H=>h _ _ (j.r k H) ((W.r j.j (λc t=>(j.o.d c t).1) k).g<|Sa _ _) I ⟨I,I⟩ I I r
theorem cp.i(c:cp G A n m q X M s)(l:mT s.e T)(o:dp G n m s.b s.a s.g T)(Q:∀S,S<=n->W S=ax)(r:X<100):cp G A n m q (X+1) M<|s.i T W a' b':=by
 refine⟨c.b,c.j,c.o,c.w,c.x,o,c.k,⟨c.d.b,c.d.a,λS k=>?_⟩,c.y,Q,c.t,c.D,c.p,c.z,c.a,(aq [1,1,1] I:ap 4 2 [.d (.d .g .j)<|.h<|.d .a .b,.d .j<|.e (.e .s .u) .b] (.d .g<|.e (.e (.p<|.h .f) .u) .a)) l.k c.f,⟨c.g.1,r⟩,c.B⟩
 .haveI:=c.d.c S k;replace this:=(c.h S k)▸this;exact(J (Q S k) this:_<=1000000*((q:am)+if W S=an then 1 else 0))
structure yF(n m:O)(A:U am)(s:aB):Prop where
 L:∀v,1<=v->v<=n->s.b.b v≠0
 a:∀y∈A,a4 s.b.b y=1
 b:∀c:O,c<m->∃y∈s.a c,a4 s.b.b y=1
theorem cp.Q(d:cp G A n m q X M s)(l:ck s.b m s.a (Z s.b.a))(h:∀S,1<=S->S<=n->s.b.b S≠0)(o:Z A<=Z s.b.f):yF n m A s:=by
 refine⟨h,λy p=>?_,λc f=>?_⟩
 .obtain⟨i,j⟩:=kR.mp p;exact(d.o.p i y j<|ci (dB j) o).2.1
 .refine aM (d.o.d c f) λw B=>aM (d.w c f) λt u=>?_;cases e:s.a c with|nil=>exact aA e t|cons a r=>cases r with|nil=>exact aF a (bu ..) (u a e).1|cons b r=>have z:=w a<|J e<|bu ..;haveI k:=h _ (jn.mpr z.1) z.2;exact aE (d.j.w z) (λg=>aA (c7.mp g) k) λx=>aE x (λg=>aF a (bu ..) g) λg=>aF b (cm _<|bu ..) ((l c f a b r e).1 ⟨g,(d.j.e z.2 k).2⟩).1
def dy(G:U (U am))(n X M:O)(s:aB):Prop:=(∃A m q,cp G A n m q X M s/\ck s.b m s.a s.b.g)\/∃m q,gI G n m q X s
end
end
section
variable{d n X M:O}{s:aB}{c:aJ}{K:br}{G:U (U am)}{A:U am}{t:b3}{a:db}
mutual
theorem tp(h:f≠b):V.p f≠V.p b:=λe=>h (by cases e;rfl)
def CW:bo:=.d (.b (.a 3)<|.j (.c 0) 0 47 .d)<|.c (.l dj (.c 3)<|.q 3) (.f<|.j (.c 0) 0 52<|.b (.c 3) .d)<|.c (.t (.l d1 (.f (.c 0) 0 25)<|.a 0)<|.l ij (.m dK (.f (.c 0) 0 26)<|.c 2)<|.f (.c 0) 0 25) (.d (.f<|.j (.c 0) 0 34<|.b (.a 0) .d)<|.a<|.p "unknown")<|.c (.A<|.j (.c 0) 0 54 .d) (.d (.b (.a 4)<|.j (.c 0) 0 56<|.b (.c 1) .d)<|.d (.c (.l cB (.c 4)<|.p "unsat") (.f<|.j (.c 0) 0 34<|.b (.a 0) .d) .e)<|.c (.l dj (.c 4)<|.p "") (.a<|.c 4) .e) .e
def DK:bo:=.d (.b (.f (.c 0) 0 24)<|.f (.c 0) 0 22)<|.d (.f<|.j (.c 0) 0 34<|.b (.a 0) .d)<|.a<|.p "unsat"
inductive py(G:U (U am))(A:U am)(n X M:O)(c:aJ)(k:O):O->U V->aB->aJ->Prop|p{d:aB}{g:aJ}(h:am)(y z:V)(m q:O)(T:d.n=[])(s:d.r=au)(l:aT c g)(i:cp G A n m q X M d)(j:ck d.b m d.a d.b.g):py G A n X M c k (100*gh m d.a+(30-Z d.b.f)) [.b 0,.e k,.a h,y,z] d g|f{d:aB}{g:aJ}(h:am)(y z:V)(m q:O)(T:d.n=[])(s:d.r=au)(l:aT c g)(i:gI G n m q X d):py G A n X M c k 0 [.b 0,.e k,.a h,y,z] d g
theorem P2{k:O}{c':V}(y':c'=.e k)(i':k<c.d)(z':c.a k=Y (.e<|aD A))(v:dy G n X M s)(A':∀y∈A,bt n y)(B':Z A<=20)(t':M<=50)(C':X<100)(D':∀j u o q,cp G A n o q X M j->ck j.b o j.a j.b.g->yF n o A j->j.n=[]->aT c u->K (.p "sat") j u)(E':∀j u o q F,cp G A n o q (X+1) M j->ck j.b o j.a j.b.g->kZ A j.e F j.r->j.n=aD F->aT c u->K (.p "unsat") j u)(F':∀j u o q,gI G n o q X j->j.n=[]->j.r=j.s->aT c u->K (.p "unsat") j u):aO a2 (d+11) 55 [.b 0,c'] (bJ K)<|aL s c:=by
 revert d n X M s c K G A k c';refine@kx _<|eZ @(letI d:=_;letI n:=_;letI X:=_;letI M:=_;letI s:=_;letI c:=_;letI K:=_;letI G:=_;letI A:=_;letI k:=_;letI c':=_;(e2 ?_:eD _ _ _ _ d n X M s c K G A k c'));intros;refine J y' ?_;haveI G':∀μ f' j u,py G A n X M c k μ f' j u->bs (aO a2<|d+10) (.d (.h (.f (.c 0) 0 21) CW) DK) (eg K) f' j u:=by
  intro μ f' j u j';refine bN<|l0.mk (py G A n X M c k) μ j' λμ f' j u H'=>H'.casesOn (λ{j u}T y k' o q a' d' E v I'=>⟨λ_=>?_,λl'=>aC (bx v.p.symm l') ar⟩) λ{j u}T y k' o q a' d' E v=>⟨λl'=>aC (bx v.p.symm l') ar,λ_=>?_⟩
  .haveI u':=aH (js ..) v.a;refine bN<|dW ?_;refine PX v.b v.j v.o v.w v.x I' (aH v.E as) ((aq [1,1,1] I:ap 2 0 [.g .a<|.c 50,.g .b .a] (.g .b<|.c 900)) t' u') (λt a g' m' P e' w Q J'=>?_) λK' t a g' m' P e' w L' M' Q J'=>?_
   .let h':U V:=[.b 0,.e k,.a T,.a<|-1,k'];refine(?_:bs _ _ _ h' (j.q t a g') m');refine⟨λD=>aA I<|bU D,λC=>⟨λD=>aA (bU D) as,λC=>⟨λq=>aC q ar,λC=>PT ⟨λC=>bN<|dW ?_,λq=>aC q ar⟩⟩⟩⟩;refine P4 I (ci (ci i' E.d) Q.d) (((Q.a k<|ci i' E.d).trans<|E.a k i').trans z') (v.C P) A' d' e' w (λae' af' F ag' R N' O' P' Q' n'=>?_) (λW R S o' H R' p' n'=>?_) λah' S S' T'=>bN<|aP (.p _ _) (λD=>aA (bU D)<|tp as) λC=>aP (.p _ _) (λC=>D' _ _ o q S (J e' w:ck t o a t.g) (S.Q w S' T') a'<|E.i Q) λD=>aA (tp as)<|cg D
    .refine(?_:bs _ _ _ [.b 0,.e k,.a T,.a<|-1,.p "unsat"] _ R);exact bN<|aP (.p _ _) (λC=>wU I ((v.C P).i N' O' P' C') (J e' w) λb' U' V' W' C H X' C Y'=>aP (.p _ _) (λC=>E' b' U' o q F V' W' (J X'<|J H.2 Q') H.1<|((E.i Q).i n').i Y') λD=>aA (tp as)<|cg D) λD=>aA I<|cg D
    .refine bN<|aP (.p _ _) (λD=>aA (bU D)<|tp as) λC=>aP (.p _ _) (λD=>aA I<|bU D) λC=>⟨_,?_,.p T _ _ o q (H.1.trans a') (H.2.trans d') ((E.i Q).i n') S o'⟩;rw[(aW Z P.f:Z (j.q t a g').b.f=Z j.b.f)]at p';exact J R'<|(aq [1,100,0,1,1,0,0,1] I:ap 6 0 [.g .a .b,.a .f<|.h .l,.a (.e .d .f)<|.c 30,.a (.e .g .l)<|.c 30] (.e (.e (.m 100 .a) .d)<|.e (.m 100 .b) .g)) (td (b4 o) P.k) p' (cy<|z1 S.E)<|cy<|(aq [1,0,1,1] I:ap 2 0 [.a .a<|.h .b,.g .a<|.c 24] (.g .b<|.c 30)) p' S.E
   .let h':U V:=[.b 0,.e k,.a T,.a K',k'];refine(?_:bs _ _ _ h' (j.q t a g') m');refine⟨λC=>?_,λD=>aA (cg D)<|@vg _⟩;exact PK I (v.C P) ((aq [1,1,1,1] I:ap 3 0 [.g .a<|.c 50,.g .b .a,.g .f .b] (.e .f<|.c 60)) t' u' v.y) e' w L' M' (λW R Z' H q'=>⟨0,(aq [1,1,0,1] I:ap 3 0 [.g .a<|.c 24,.a (.e .b .a)<|.c 30] (.e .i<|.e (.m 100 .f) .b)) v.E<|cy<|z1 v.E,.f T _ _ o q (H.1.trans a') (H.2.trans d') ((E.i Q).i q') Z'⟩) λW R S o' aa' H q'=>⟨_,(aq [1,100,100,1] I:ap 5 0 [.g .a .b,.g (.h .f) .a,.g .l<|.c 30] (.e (.e (.m 100 .f) .l)<|.e (.m 100 .b) .d)) (td (b4 o) P.k) aa'<|gC _ _,.p T _ _ (o+1) (q+1) (H.1.trans a') (H.2.trans d') ((E.i Q).i q') S o'⟩
  .refine ay v.d λw v' C=>?_;let W:={j with r:=Y w};refine bN<|dW<|(λP j'=>by unfold mb;exact J (show j.m 0 22=.l (.a w)from by refine(J v' ?_:b1.l (ia j.s)=_);rfl) j':∀P:V->Prop,P (.a w)->mb j u 0 22 P) _<|eP I (λq=>aC q ar) W I ?_;refine bN<|jR I v.b v.j v.k ?_ (λC=>F' _ _ o q ⟨v.b,v.j,v.a,v.c,v.k,v.o,v.h,v.p,v.d,v.f,v.g⟩ a' v'.symm<|E.i ⟨b4 _,λC C=>I⟩) λw x=>?_
   .refine J v.a ?_;decide
   .replace x:=(v.a)▸x;exact aC x ar
 have w':∀N B,aT c B->((∃o q,cp G A n o q X M N/\ck N.b o N.a N.b.g)\/∃o q,gI G n o q X N)->bs (aO a2<|d+10) (.d (.b (.b (.f (.c 0) 0 23)<|.b (.f (.c 0) 0 24) .d)<|.g<|.b (.g .d)<|.b .z .d)<|.d (.b (.a 2)<|.f (.c 0) 0 26)<|.d (.h (.f (.c 0) 0 21) CW) DK) (eg K) [.b 0,.e k,.d,.d,.d] N B:=by intro N B E r';let W:={N with n:=[]};let b':={W with r:=au};let R:={B with e:=dz (dz B.e 0 23) 0 24};have x':aT c R:=E.i ⟨b4 _,λC C=>I⟩;haveI s':∃μ,py G A n X M c k μ [.b 0,.e k,.a b'.A,.d,.d] b' R:=aE r' (λL=>cF L λo q v w=>⟨_,.p _ _ _ o q I I x' ⟨v.b,v.j,v.o,v.w,v.x,v.c,v.k,v.d,v.y,v.h,v.t,v.D,v.p,v.z,v.a,v.f,v.g,v.B⟩ w⟩) λL=>f2 L λo q v=>⟨_,.f _ _ _ o q I I x' ⟨v.b,v.j,v.a,v.c,v.k,v.o,v.h,v.p,v.d,v.f,v.g⟩⟩;obtain⟨μ,s'⟩:=s';exact bN<|sF I I (λq=>aC q ar) W I I I (λq=>aC q ar) b' I ⟨I,bN<|G' μ _ b' R s'⟩
 refine cb I I I<|dM ?_;intro h' ai';refine aE v (λL=>gi L λaj' o q v w=>bN<|wU I v w λN B ab' ac' r' H C C ad'=>w' N B ad'<|aK<|dr o q (ab'.P r' B') ac') λL=>f2 L λo q v=>?_
 .refine bN<|jR I v.b v.j v.k ?_ (λC=>w' s c aT.j<|a1<|fu o q v) λw x=>?_
  .refine J v.a ?_;decide
  .replace x:=v.a▸x;exact aC x ar
end
end
section
variable{d n m q X M:O}{s:aB}{c:aJ}{K:br}{G:U (U am)}{A:U am}{t:b3}{a:db}
mutual
def aB.u(s:aB)(n m:O)(p:dD)(c:rP)(w:am)(o:U am)(t:b3):aB:={s with b:=t,e:=p,d:=nj n<|m+1,j:=c,a:=aw s.a m o,g:=aw s.g m w,k:=kI s.k m o}
structure nV(G:U (U am))(n m X:O)(s:aB)(p:dD)(w:am)(g:U am):Prop where
 c:dp (G++[g]) n m s.b s.a s.g p
 b:cL p.l w g
 a:∀y∈g,bt n y
 d:eC g
 f:(Z p.l:am)<=X+(m+1:O)+p.a
theorem mr(T:bG n t)(h:t.f=[])(a:bt n y)(g:a4 t.b y≠0):t.e (ao y)=0:=by haveI:=T.a _ a.2 λe=>g<|c7.mpr e;rw[h]at this;exact tE this.2 this.1
theorem eC.g(h:eC l):b0 (l.map ao):=by rw[b0,iQ];exact h.imp λa=>bj a
theorem cp.u(i:cp G A n m q X M s)(w:s.b.f=[])(N:nV G n m X s a' c' b')(k:S.Perm b')(D:M<50)(E:bG n W)(F:W.f=[])(L:cT n A W (m+1) (aw s.a m S))(H:ew W (m+1) (aw s.a m S))(K:fH n W a')(P:∀T,T<=n->W.b T=0->s.b.b T=0):cp (G++[b']) A n (m+1) q X (M+1)<|s.u n m a' d' c' S W:=by
 haveI z:=(k.map _).nodup_iff.mpr N.d.g;haveI Q:eF (m+1) (aw s.a m S)<|kI s.k m S:=i.x.e λx y e' v=>by subst v;rw[iO,iO,dO]at z;exact nt (N.a x<|k.mem_iff.mp<|bu ..).1 (N.a y<|k.mem_iff.mp<|cm _<|bu ..).1 λv=>z.1<|J v<|bu ..
 refine⟨⟨I,i.b.i,n1 i.l.2⟩,E,L,H,Q,⟨K,(N.c.e N.b λx=>tI k.symm).d,(N.c.e N.b λx=>tI k.symm).c⟩,i.k,i.d,j0 i.y,i.h,λT R B j=>i.t T R B<|P T B j,(J F<|f7 _:Z W.f<=_),i.p,λo t=>?_,?_,N.f,⟨D,i.g.2⟩,i.B⟩
 .rcases cK.mp t with t|t
  .exact ay (i.z o t) λc C p=>aF c (er C) (J (aG<|bj C) p:∀x,x∈aw s.a m S c↔_)
  .exact J (b9.mp t)<|aF m (b7 m) (J aR λx=>tI k:∀x,x∈aw s.a m S m↔_)
 .refine(?_:m+1+gh (m+1) (aw s.a m S)<=M+1);haveI:gh (m+1) (aw s.a m S)<=_:=td (cO m) (λc r=>by rw[aG<|bj r]);haveI:=i.a;exact(aq [1,1,1] I:ap 4 0 [.g .a .b,.g (.e .f .b) .l] (.g (.e (.h .f) .a)<|.h .l)) (by assumption) (by assumption)
theorem cp.L(c:cp G A n m q X M s)(z:ck s.b m s.a s.b.g)(d:s.b.f=[])(N:nV G n m X s c' d' b')(o:(S::W).Perm b')(B:M<50)(v:a4 s.b.b S=1\/(a4 s.b.b S=0/\∃T a',W=T::a'/\a4 s.b.b T≠-1)):cp (G++[b']) A n (m+1) q X (M+1) (s.u n m c' e' d' (S::W) s.b)/\ck s.b (m+1) (aw s.a m<|S::W) s.b.g:=by
 haveI l:=λy C=>N.a y<|o.mem_iff.mp C;refine⟨c.u d N o B c.j d (c.o.e ⟨l,(o.map _).nodup_iff.mpr N.d.g⟩ λk x t=>?_) (c.w.e ⟨ar,λT e=>?_⟩) N.c.b λD D h=>h,z.e λx y a' e=>?_⟩
 .replace t:=d▸t;exact aC t ar
 .injection e with u i;refine bb ?_;intro H;subst u i;rcases v with h|⟨_,T,a',h,_⟩
  .exact⟨h,mr c.j d (l S<|bu ..)<|J h as⟩
  .exact aC h ar
 .injection e with u i;subst u i;rcases v with h|⟨h,T,K,i,E⟩
  .exact⟨λf=>aA f.1<|J h as,λf=>⟨h,J (mr c.j d (l S<|bu ..)<|h.symm▸as)<|J (mr c.j d (l y<|cm _<|bu ..) f.g)<|gz _⟩⟩
  .injection i with F e4;exact⟨λf=>aA f.1<|J h as,λf=>aA f.1<|J F E⟩
theorem cp.R(d:cp G A n m q X M s)(P:ck s.b m s.a s.b.g)(o:s.b.f=[])(N:nV G n m X s b' c' a')(B:(S::W).Perm a')(Q:M<50)(l:a4 s.b.b S=0)(a:∀T∈W,a4 s.b.b T=-1):cp (G++[a']) A n (m+1) q X (M+1) (s.u n m b' d' c' (S::W)<|s.b.i S m)/\ck (s.b.i S m) (m+1) (aw s.a m<|S::W) s.b.g:=by
 have C:=λT t=>N.a T<|B.mem_iff.mp t;haveI z:=C S<|bu ..;have D:=d.j.i m z l;haveI v:a4 (s.b.i S m).b S=1:=kt;haveI F:=mr D o z<|J v as;refine⟨d.u o N B Q D o ((d.o.e ⟨C,(B.map _).nodup_iff.mpr N.d.g⟩ λk x H=>by rw[o]at H;exact aC H ar).i d.j z l<|a1<|dQ m I (b7 m) (J aR<|bu ..) λT t g=>?_) ((d.w.i l).e ⟨ar,λj c=>?_⟩) (N.c.b.i d.j z l) λu p h=>?_,(P.i l d.j.l.2).e λx T r c=>?_⟩
 .rw[aR]at t;rcases cu.mp t with c|c
  .exact aA c g
  .exact a T c
 .injection c with E K;induction E;exact⟨v,F⟩
 .refine jl λL=>?_;haveI h:aw s.b.b (ao S) (ib S) u=0:=h;by_cases c:u=ao S
  .subst c;exact L<|c7.mp l
  .rw[aG c]at h;exact L h
 .injection c with E K;subst E K;exact⟨λf=>aA f.1<|J v as,λf=>⟨v,J F<|J (mr D o (C T<|cm _<|bu ..) f.g)<|gz _⟩⟩
def aB.D(s:aB)(n m:O)(p:dD)(b:rP)(w:am)(o:U am):aB:={s with e:=p,d:=nj n<|m+1,j:=b,a:=aw s.a m o,g:=aw s.g m w}
theorem Bh(T:bG n s.b)(h:s.b.f=[])(a:bt n y):hZ s y=if a4 s.b.b y=-1 then 0 else 1:=by
 unfold hZ;by_cases g:a4 s.b.b y=-1
 .exact J (a9 g)<|J (a9 g)<|J (mr T h a<|J g as) I
 .exact J (bf g)<|J (bf g)<|J h I
theorem A0(T:bG n s.b)(h:s.b.f=[])(w:∀y∈e::r,bt n y)(q:(e::r).Pairwise (λe b=>hZ s b<=hZ s e))(c:a4 s.b.b e=-1):∀y∈e::r,a4 s.b.b y=-1:=λy d=>by
 refine bb ?_;intro p;rcases cu.mp d with rfl|g
 .exact c
 .haveI A:=(o1.mp q).1 y g;rw[Bh T h<|w y d,Bh T h<|w e<|bu ..,a9 c]at A;exact jl λg=>by rw[bf g]at A;exact aA A as
def CJ:bo:=.d (.c (.B (.l cB (.k<|.c 2)<|.a 0)<|.l cB (.j (.c 0) 0 23<|.b (.i (.c 2)<|.a 0) .d)<|.q 2) (.a<|.c 1) .e)<|.d (.c (.l cB (.j (.c 0) 0 23<|.b (.i (.c 2)<|.a 0) .d)<|.q 0) (.c (.l cB (.k<|.c 2)<|.a 1) (.f<|.j (.c 0) 0 32<|.b (.i (.c 2)<|.a 0)<|.b (.c 1) .d)<|.c (.l cB (.j (.c 0) 0 23<|.b (.i (.c 2)<|.a 1) .d)<|.q 2) (.d (.f<|.j (.c 0) 0 34<|.b (.i (.f (.c 0) 0 2)<|.n<|.i (.c 2)<|.a 1) .d)<|.f<|.j (.c 0) 0 32<|.b (.i (.c 2)<|.a 0)<|.b (.c 1) .d) .e) .e)<|.a<|.q 3
theorem PY{gm:O}(t:cp G A n m q X M s)(W:ck s.b m s.a s.b.g)(z:s.b.f=[]){B:dD}{w:am}{g o:U am}(N:nV G n m X s B w g)(P:o.Perm g){D:rP}(c':M<50)(j':o.Pairwise (λu v=>hZ s v<=hZ s u))(C:gm=c.e (.a 0 12 m))(k':(∀y∈o,a4 s.b.b y=-1)->K (.a m) (s.u n m B D w o s.b) c)(q':∀f l,cp (G++[g]) A n (m+1) q X (M+1) (s.u n m B D w o f)->ck f (m+1) (aw s.a m o) f.g->f.f=[]->aT c l->K (.a<|-1) (s.u n m B D w o f) l):bs (aO a2<|d+4) CJ (eg K) [.b 0,.a m,.j (.a 0 12 m) gm] (s.u n m B D w o s.b) c:=by
 revert t W z o D;revert d n m q X M s c K G A gm B w g;refine@wv _<|h0 @(letI d:=_;letI n:=_;letI m:=_;letI q:=_;letI X:=_;letI M:=_;letI s:=_;letI c:=_;letI K:=_;letI G:=_;letI A:=_;letI gm:=_;letI B:=_;letI w:=_;letI g:=_;(ic ?_:he _ _ _ _ _ _ _ _ _ _ _ d n m q X M s c K G A gm B w g));intros;have Q:=λy d'=>N.a y<|P.mem_iff.mp d';have R:=aH (hk Q<|(P.map _).nodup_iff.mpr N.d.g) t.b.i;let x:=s.u n m B D w o s.b;have F:cD n (m+1) x.d:=⟨I,t.b.i,n1 t.l.2⟩;have E:=b7 m;have S:x.a m=o:=aR;have T:(Z (x.a m):am)=Z o:=J S I;cases o with
 |nil=>exact bN<|fg C E (S▸(aH R as):Z (x.a m)<=bi) (λH=>⟨λH=>k' λH L=>aC L ar,λq=>aC q ar⟩) λe=>aA T<|cg e
 |cons u r=>
  have a':=Q u<|bu ..;have e':d5 (0:am) (Z (x.a m)):=J S<|eG (gD _)<|aH R as;have f':∀f l,cp (G++[g]) A n (m+1) q X (M+1) (s.u n m B D w (u::r) f)/\ck f (m+1) (aw s.a m<|u::r) f.g->f.f=[]->aT c l->K (.a<|-1) (s.u n m B D w (u::r) f) l:=λf l L=>q' f l L.1 L.2;refine bN<|fg C E (S▸(aH R as):Z (x.a m)<=bi) (λe=>aA ((bU e).symm.trans T)<|@F9 _) λH=>bV C E e'<|jS (s:=x) (J S I) F a' ⟨λe=>k'<|A0 t.j z Q j'<|bU e,λe=>have r':a4 s.b.b u≠-1:=cg e;bN<|bV C E e'<|jS (J S I) F a' ⟨λe=>?_,λe=>f' _ _ (t.L W z N P c'<|aK<|hJ (t.j.w a') (cg e)|>.resolve_right r') z aT.j⟩⟩
  .have l':a4 s.b.b u=0:=bU e;haveI m':∀l,aT c l->gm=l.e (.a 0 12 m)->(∀y∈r,a4 s.b.b y=-1)->bh (aO a2<|d+4) (.j (.c 0) 0 32<|.b (.i (.c 2)<|.a 0)<|.b (.c 1) .d) [.b 0,.a m,.j (.a 0 12 m) gm] (λH s c=>K (.a<|-1) s c) x l:=λl s' t' u'=>bV t' E e'<|qz (J S I) I F a' (J z as) (vc t.b.i t.j.k)<|f' _ _ (t.R W z N P c' l' u') z s';refine fg C E (S▸(aH R as):Z (x.a m)<=bi) (λg'=>m' c aT.j C<|(iN.mp<|(dR [1,0,1] [1] I I:ap 1 0 [.c .k<|.p<|.h .a] (.a .a .i))<|(bU g').symm.trans T).symm▸(λH L=>aC L ar)) λg'=>?_
   .induction r with
    |nil=>exact aA T<|cg g'
    |cons v r=>
     have h':=Q v<|cm _<|bu ..;haveI n':d5 (1:am) (Z (x.a m)):=J S<|eG (xL<|gD _)<|aH R as;refine bV C E n'<|jS (J S I) F h' ⟨λi'=>?_,λi'=>f' _ _ (t.L W z N P c'<|a1<|J7 l' v r I<|cg i') z aT.j⟩
     .have o':a4 s.b.b v=-1:=bU i';have p':bS (x.a m) 1 0=v:=J S I;refine bN<|fh C E n' I (J p'<|F.e h'.2) ((J p'<|mr t.j z h'<|J o' as:x.b.e (ao (bS (x.a m) 1 0))=0).symm▸(jR I F t.j t.k (J z as) (λH=>m' c aT.j C<|A0 t.j z (λy d'=>Q y<|cm _ d') (o1.mp j').2 o') λw b'=>?_):aO a2 (d+4) 34 [.b 0,.a<|x.b.e ((x.a m).getD 1 0).natAbs] _ _)
      .have b':s.b.f[0]?=_:=b';rw[z]at b';exact aC b' ar
theorem PU(m':x=.a m)(D:cp G A n m q X M s)(n':ck s.b m s.a s.b.g)(T:s.b.f=[])(N:nV G n m X s p w g)(o':M<50)(p':∀o u,o.Perm g->(∀y∈o,a4 s.b.b y=-1)->aT c u->K (.a m) (s.u n m p z w o s.b) u)(q':∀o v u,cp (G++[g]) A n (m+1) q X (M+1) (s.u n m p z w o v)->ck v (m+1) (aw s.a m o) v.g->v.f=[]->aT c u->K (.a<|-1) (s.u n m p z w o v) u):aO a2 (d+5) 0 [.b 0,x] (bJ K)<|aL (s.D n m p z w g) c:=by
 refine J m' ?_;have b':=D.l.2;let B:=s.D n m p z w g;have H:cD n (m+1) B.d:=⟨I,D.b.i,n1 b'⟩;haveI c':B.a m=g:=aR;have L:=aH (hk N.a N.d.g) D.b.i;haveI h:=H.a<|b7 m;haveI d':Z B.b.f<=100:=J T as;have e':bs (aO a2<|d+4) (.d (.b (.a 2)<|.j (.c 0) 0 30<|.b (.i (.f (.c 0) 0 12)<|.c 1) .d)<|.d (.b (.i (.f (.c 0) 0 12)<|.c 1)<|.c 2)<|.d (.c (.l d1 (.k<|.c 2)<|.a 1) (.f<|.j (.c 0) 0 28<|.b (.c 1) .d) .e) CJ) (eg K) [.b 0,.a m,.d] B c:=by
  refine bN<|dW<|h9 I<|d7<|aP I h<|Dj H d' (J (AI I<|b7 m)<|aW (λr'=>Y<|aD r') c':(aL B c).k (.j (.a 0 12 m)<|c.e<|.a 0 12 m)=Y (aD g)) ar N.a L λo s' F E t' f' C' u' v' D'=>?_;let C:=s.D n m p z w o;let W:={F with e:=ff F.e<|.a 0 12 m,a:=aw F.a s' au};let g':=F.e (.a 0 12 m)+1;have h':aT c W:=⟨f'.d,λw' i'=>(aG<|bj<|ci i' u').trans<|f'.a w' i'⟩;have j':=(a9 I:ff F.e (.a 0 12 m) (.a 0 12 m)=_).symm;have x':C.l=f0 B.l 0 12 (.n (m+1)<|aw B.a m o):=J tw I;refine bN<|vU I h o C v' x'<|let y':U V:=[.b 0,.a m,.j (.a 0 12 m) g'];(?_:bs _ _ _ y' C W);have k':=PY (d:=d) (gm:=g') D n' T N E o' t' j' (λz'=>p' o W E z' h') λv u P Q A' t=>q' o v u P Q A'<|h'.i t;haveI R:C.a m=o:=aR;refine bN<|fg j' (b7 m) (J R<|aH (J (fK E) L) as:Z (C.a m)<=bi) (λt=>?_) λt=>?_
  .have t:(1:am)<Z (C.a m):=bU t;rw[R]at t;cases o with|nil=>exact aA t as|cons P r=>cases r with|nil=>exact aA t<|xm 1|cons Q r=>exact DA I H (b7 m) R ((λy a'=>N.a y<|E.mem_iff.mp a') P<|bu ..) ((λy a'=>N.a y<|E.mem_iff.mp a') Q<|cm _<|bu ..) (aH (J (fK E) L) as) (λp=>aH (D.x.k p)<|uO b') k'
  .have t:¬(1:am)<Z (C.a m):=cg t;rw[R]at t;haveI B':C=s.u n m p z w o s.b:=by cases o with|nil=>rfl|cons P r=>cases r with|nil=>rfl|cons Q r=>exact aA (by exact@Ga _) t
   exact J B' k'
 refine cb I I I<|bN<|ko I h I (b7 m) (J c'<|aH L as) (λl'=>jR (s:=B) I H D.j D.k d' (λl'=>e') λw S=>?_) λl'=>e';haveI S:s.b.f[0]?=_:=S;rw[T]at S;exact aC S ar
def kq(G:U (U am))(g:U am):dw:=⟨"input",g,[],.a (Z G)⟩
theorem el.f(P:el G n m p r)(x:eu g)(c:am):el (G++[g]) n m {p with l:=p.l++[kq G g],b:=c} r:=(⟨P.b,λk q M=>⟨(P.a k q M).e,(P.a k q M).b.imp (λX=>oR X λa d i h j=>eP a d i h<|li j) id⟩,P.i⟩:el (G++[g]) n m p r).e x ⟨λo(z:o∈([]:U am))=>aC z ar,aK<|eP I I (Z G) I p3⟩ (λo(z:o∈([]:U am))=>aC z ar) c
theorem dp.f(B:dp G n m t a r p)(x:eu j)(c:am):dp (G++[j]) n m t a r {p with l:=p.l++[kq G j],b:=c}:=dp.a ⟨B.b,B.d,⟨B.c.b,λk q M=>⟨(B.c.a k q M).e,(B.c.a k q M).b.imp (λX=>oR X λd o i h s=>eP d o i h<|li s) id⟩,B.c.i⟩⟩<|B.c.f x c
theorem cp.F(b:cp G A n m q X M s)(x:eu S)(P:∀T∈S,bt n T)(c:am):nV G n m X s (s.x (kq G S) c).e (Z s.e.l) S:=⟨b.c.f x c,cL.d,P,x.1,bI.symm▸xD.symm▸((aq [1,1] I:ap 3 1 [.d .g<|.e (.e .j .s) .a] (.d (.p<|.h .a)<|.e (.e .j<|.p<|.h .f) .a)) b.f)⟩
theorem cp.e(a:cp G A n m q X M s)(b:X<=S)(h:M<=T)(i:T<=50)(p:S<=100):cp G A n m q S T s:=⟨a.b,a.j,a.o,a.w,a.x,a.c,a.k,a.d,a.y,a.h,a.t,a.D,a.p,a.z,aH a.a h,ey a.f<|En (En (eb.mpr b) _) _,⟨i,p⟩,a.B⟩
theorem gI.e(F:gI G n m q X s)(M:X<=l)(h:l<=100):gI G n m q l s:=⟨F.b,F.j,F.a,F.c,F.k,F.o,F.h,F.p,F.d,aH F.f<|(aq [1,1] I:ap 3 0 [.g .a .b] (.g (.e (.e .a .f)<|.c 5)<|.e (.e .b .f)<|.c 5)) M,⟨F.g.1,h⟩⟩
def vo:bo:=.d (.c (.t (.f (.c 0) 0 21)<|.A<|.r 20<|.b (.c 3) .d) (.d (.b (.a 4)<|.j (.c 0) 0 0<|.b (.j (.c 0) 0 27<|.b (.c 3)<|.b (.c 2)<|.b (.h ax) .d) .d)<|.c (.l dj (.c 4)<|.q 3) (.f<|.j (.c 0) 0 46<|.b (.c 4) .d) .e) .e)<|.a<|.f (.c 0) 0 21
theorem PB(t:cp G A n m q X M s)(g':ck s.b m s.a s.b.g)(Q:s.b.f=[])(F:eu B)(P:∀y∈B,bt n y)(h':¬pA B)(W:M<50)(E:y≠.d)(i':∀C D m,cp (G++[B]) A n m q X (M+1) C->ck C.b m C.a C.b.g->aT c D->K (.h an) C D)(j':∀C D m,gI (G++[B]) n m q X C->aT c D->K (.h ax) C D):bs (aO a2<|d+11) vo (eg K) [.b 0,y,.a (Z s.e.l),.g<|aD B,.d] (s.x (kq G B) p) c:=by
 have H:=t.b.i;haveI R:=t.l.2;let L:=s.x (kq G B) p;have a':=aH (hk P F.1.g) H;haveI b':=t.b.d;let S:={s.j with i:=aw s.j.i m ax,l:=aw s.j.l m 0,a:=s.j.a};haveI k':L.C B (Z s.e.l) ax=s.D n m L.e S (Z s.e.l) B:=by unfold aB.C;refine J b' ?_;rfl
 refine bN ⟨λN=>?_,λp=>?_⟩
 .refine Dv I a' (λl'=>aA l' h') λN=>⟨λN=>bN<|dW ⟨I,Du I I I ⟨b',H,uO R⟩ (y0 R) (aH a' as) λx' c' y'=>J k' ?_⟩,λq=>aC q ar⟩;refine PU I t g' Q (t.F F P p) W (λo T k d' w=>?_) λo m' T n' o' z' w=>?_
  .refine(?_:bs _ _ _ [.b 0,y,.a (Z s.e.l),.g<|aD B,.a m] (s.u n m L.e S (Z s.e.l) o s.b) T);let x:=s.u n m L.e S (Z s.e.l) o s.b;refine⟨λN=>?_,λp=>aA (cg p)<|@vg _⟩;refine Di (s:=x) I ⟨I,H,n1 R⟩ t.j (t.o.e ⟨λy E=>P y<|k.mem_iff.mp E,(k.map _).nodup_iff.mpr F.1.g⟩ λA' p' e'=>by rw[Q]at e';exact aC e' ar) ((t.F F P p).c.e (t.F F P p).b λp'=>tI k.symm) ((aq [1,1,1] I:ap 2 0 [.g .a<|.c 200,.a .b<|.h .a] (.g .b<|.c 700)) t.l.1 bI) (b7 m) (λy E=>?_) λB' q' r' s' f' t' u'=>j' _ q' (m+1) ⟨⟨I,H,n1 R⟩,t.j,Q,f'.c,t.k,ey t.d.a.2<|ux t.d.b,t.h,I,aF r' I t',ch f'.b.f λC' v' w' N=>(aq [1,1,1,0,1,1,0,1,1,1,0,1] I:ap 8 3 [.g .a<|.c 4,.a .b<|.h .f,.d (.d .u .j)<|.h<|.d .a .b,.c .a .v,.g .d .g,.g .g .a,.d .s<|.e (.e .z .A) .f,.c .b .f] (.g .l<|.e (.e .j<|.h .r)<|.c 5)) H bI s'.k v' w' t.j.k t.f (I:x.e.a=s.e.a),aH (fP<|aH (js ..) t.a) W,t.g.2⟩<|(c'.i w).i u'
   .replace E:=(show x.a m=o from aR)▸E;exact⟨d' y E,mr t.j Q ((λy E=>P y<|k.mem_iff.mp E) y E) (by refine J (d' y E) ?_;decide)⟩
  .refine(?_:bs _ _ _ [.b 0,y,.a (Z s.e.l),.g<|aD B,.a<|-1] (s.u n m L.e S (Z s.e.l) o m') T);exact⟨λp=>aA I<|bU p,λN=>(J t.p<|i' _ T (m+1) n' o'<|c'.i w:K (.h s.p) _ _)⟩
 .haveI p:=p;replace p:=t.p▸p;exact aC p ar
theorem Px(i':y=.e v)(j':z=.a (Z s.e.l))(k':v<c.d)(l':c.a v=Y (.e<|aD l))(m':Z l<=4)(t:dy G n X M s)(Q:eu r)(n':∀y∈r,bt n y)(T:∀x,x∈r↔x∈l)(W:M<50)(R:X<100)(o':∀j u,dy (G++[r]) n (X+1) (M+1) j->j.p=an->aT c u->K (.h an) j u)(a':∀j u m q,gI (G++[r]) n m q (X+1) j->aT c u->K (.h ax) j u):aO a2 (d+12) 40 [.b 0,y,z] (bJ K)<|aL (s.x (kq G r) B) c:=by
 subst i' j';let N:=s.x (kq G r) B;refine cb I I I<|bN<|dW<|oI (s:=N) (hS.e k' l') m' λo b' D H' S I'=>?_;show bs _ _ _ [.b 0,.e v,.a (Z s.e.l:O),.g<|aD o,.d] N b';have p':∀x∈r,-x∉r:=λx q' C=>(Q.e x q').2 C;have c':¬pA o:=λr'=>cF r' λJ' x s' t'=>p' x ((T x).mpr<|(D.h x).mp<|dZ s')<|(T _).mpr<|(D.h _).mp<|dZ t';obtain rfl:o=r:=eC.ext (D.a c') Q.1 λx=>(D.h x).trans (T x).symm;rcases t with⟨A,m,q,t,d'⟩|⟨m,q,F⟩
 .have e':∀{j:aB}{P:aJ},cp G A n m q X M j->ck j.b m j.a j.b.g->j.b.f=[]->j.e=s.e->aT c P->bs (aO a2<|d+11) vo (eg K) [.b 0,.e v,.a (Z s.e.l:O),.g<|aD o,.d] (j.x (kq G o) B) P:=λ{j P}u' v' w' x' f'=>by rw[<-x'];exact PB u' v' w' Q n' c' W ar (λi p w g' y' L=>o' i p (aK ⟨A,w,q,g'.e (cO X) (b4 _) W R,y'⟩) g'.p<|f'.i L) λi p w z' L=>a' i p w q (z'.e (cO X) R)<|f'.i L
  refine bN<|jR (s:=N) (k:=0) I t.b t.j t.k (aH t.E as) (λC=>?_) λA' E B' C' P L H h'=>?_
  .exact e' t d' (iN.mp<|SU.mp C) I S
  .exact e' (t.r E h') ((d'.r t.j (λc D'=>(t.o.d c D').1) E).g<|Sa _ _) I I<|S.i L
 .refine bN<|jR (s:=N) (k:=0) I F.b F.j F.k (by show Z s.b.f<=100;rw[F.a];decide) (λC=>?_) λA' E B' C' P L H h'=>?_
  .refine bN ⟨λC=>?_,λH=>?_⟩
   .have C:s.p=an:=C;rw[F.p]at C;exact aC C ar
   .refine⟨λq=>aC q ar,λH=>?_⟩;show K (.h s.p) N b';rw[F.p];refine ay F.d λE' F' G'=>?_;refine a' _ _ m q ⟨F.b,F.j,F.a,F.c.f Q B,F.k,F.o,F.h,F.p,⟨E',F',G'.f⟩,?_,F.g.1,R⟩ S;show Z (s.e.l++[kq G o])<=X+1+m+5;have:=F.f;rw[bI,xD];exact(aq [1,1] I:ap 3 0 [.g .a<|.e (.e .b .f)<|.c 5] (.g (.h .a)<|.e (.e (.h .b) .f)<|.c 5)) this
  .have E:s.b.f[0]?=_:=E;rw[F.a]at E;exact aC E ar
theorem Py(P:y=.e k)(Q:j=.z)(R:k<c.d)(T:c.a k=Y (.e<|aD l))(p:Z l<=4)(r:dy G n X M s)(W:∀y∈l,y≠0)(a':∃x∈l,-x∈l)(v:∀f i,dy G n X M f->aT c i->K (.h f.p) f i):aO a2 (d+12) 40 [.b 0,y,j] (bJ K)<|aL s c:=by
 subst P Q;refine cb I I I<|dM ?_;intro w i';refine bN<|dW<|oI (hS.e R T) p λo B D b' C j'=>?_;let w:U V:=[.b 0,.e k,.z,.g<|aD o,.d];refine(?_:bs _ _ _ w s B);haveI c':=jl λt=>by refine ay a' λx E d'=>?_;haveI:=ls (D.a t).g ((D.h x).mpr E) ((D.h _).mpr d') (du x).symm;exact W x E<|y8 this
 have H:∀f i,dy G n X M f->aT c i->bs (aO a2<|d+11) vo (eg K) [.b 0,.e k,.z,.g<|aD o,.d] f i:=λf i S L=>bN ⟨λa=>Dv I b' (λa=>⟨λq=>aC q ar,λa=>v f i S L⟩) λt=>aA c' t,λa=>⟨λq=>aC q ar,λa=>v f i S L⟩⟩;refine aE r (λu=>gi u λA m q r e'=>bN<|wU I r e' λf i f' g' a a a a h'=>H f i (aK<|h4 A m q f' g')<|C.i h') λu=>f2 u λm q F=>?_
 .refine bN<|jR I F.b F.j F.k (by refine J F.a ?_;decide) (λa=>H s B (a1<|fu m q F) C) λk' N a a a a a a=>?_;rw[F.a]at N;exact aC N ar
end
end
mutual
def b3.v(t:b3)(n:O):b3:={t with b:=aw t.b (n+1) 0,e:=aw t.e (n+1) 0,j:=aw t.j (n+1)<|-1,h:=aw t.h (n+1) 0}
end
section
variable{d n m q X M:O}{s:aB}{c:aJ}{K:br}{G:U (U am)}{A:U am}{t:b3}{a:db}
mutual
theorem bt.e(h:bt n x):bt (n+1) x:=⟨h.1,j0 h.2⟩
theorem no(h:v<=n):v≠n+1:=bj<|mx h
theorem m8(h:bt n y):a4 (t.v n).b y=a4 t.b y:=ni<|aG<|no h.2
theorem p4(h:v<=n+1)(g:(t.v n).b v≠0):v<=n/\t.b v≠0:=haveI g:aw t.b (n+1) 0 v≠0:=g;haveI e:v≠n+1:=λe=>g<|az e aR;⟨l1 e h,by rwa[aG e]at g⟩
theorem oh(a:v<=n):(t.v n).h v=t.h v:=aG<|no a
theorem m9(h:v<=n):(t.v n).e v=t.e v:=aG<|no h
theorem Bf(h:v<=n):(t.v n).j v=t.j v:=aG<|no h
theorem sA(h:bt n y):fQ (t.v n) b y↔fQ t b y:=by unfold fQ;rw[m8 h,oh h.2]
theorem bG.v(T:bG n t):bG (n+1)<|t.v n where
 s i x h:=b6 (T.s i x h) λA k Q=>aP A.e ((m8 A).trans k)<|(oh A.2).trans Q
 c g P h:=aM (p4 P h) λe j=>T.c g e j
 d:=T.d
 f:=T.f
 a g P h:=aM (p4 P h) λe j=>(m9 e).symm▸(T.a g e j)
 b g P h:=aM (p4 P h) λe j=>(m9 e).symm▸(oh e).symm▸(T.b g e j)
 l:=T.l
theorem cT.v(o:cT n A t m a):cT (n+1) A (t.v n) m a where
 f u P g:=aM (p4 P g) λq b=>(Bf q).symm▸(oh q).symm▸((o.f u q b).imp id λX=>dC X λc i j W F=>ch W λx Q w B=>bO c i j ⟨bO x Q w<|(m8<|(o.d c j).1 x Q).trans B,λy r G=>(sA<|(o.d c j).1 y r).mpr<|J (oh q)<|F y r G⟩)
 d c s:=⟨λy r=>((o.d c s).1 y r).e,(o.d c s).2⟩
 l k x M c s:=by
  have P:=(o.d c s).1;refine bb ?_;intro K;rcases o.l k x M c s with⟨y,i,j,Q⟩|⟨y,i,z,j,Q,w,B⟩
  .exact aK<|bO y i ((m8<|P y i).trans j)<|J (oh (P y i).2) Q
  .exact a1<|sH y i z<|bV j Q (λC=>w<|(sA<|P y i).mp C) λC=>B<|(sA<|P z j).mp C
 m u P g D E:=by refine aM (p4 P g) λq b=>?_;replace D:=(Bf q)▸D;replace E:=(m9 q)▸E;refine ch (o.m u q b D E) λy i j Q=>?_;subst j;exact bO y i I<|(ni<|aG<|no q).trans Q
 p k y r H:=b6 (o.p k y r H) λi j Q=>aP i.e ((m8 i).trans j)<|J (m9 i.2) Q
 h:=o.h
theorem ew.v(h:ew t m a)(P:∀c,c<m->∀y∈a c,bt n y):ew (t.v n) m a:=λc b=>⟨(h c b).1,λd e=>⟨(m8<|P c b d<|e▸gA _).trans ((h c b).2 d e).1,(m9 (P c b d<|e▸gA _).2).trans ((h c b).2 d e).2⟩⟩
theorem ck.v(h:ck t m a b)(P:∀c,c<m->∀j∈a c,bt n j):ck (t.v n) m a b:=haveI D:=λx j M g w f=>(m8 g).symm▸(J (m9 g.2)<|J (m9 M.2)<|w<|(sA M).mp f);λc d x j r e=>haveI i:=P c d x<|J e<|bu ..;haveI l:=P c d j<|J e<|cm _<|bu ..;⟨D x j i l (h c d x j r e).1,D j x l i (h c d x j r e).2⟩
theorem eF.v(h:eF m a f)(P:∀c,c<m->∀i∈a c,bt n i):aw (aw f (2*n+2) []) (2*n+3) []=f:=by
 have S:∀p,2*n+2<=p->f p=[]:=λp j=>EC.mpr λx M=>by obtain⟨c,_,k,l,b,r,e,g⟩:=(h.h p x).mp M;haveI z:=tc<|P c k l<|J e<|bu ..;haveI t:=tc<|P c k b<|J e<|cm _<|bu ..;exact aE g (λd=>z4 j z d) λd=>z4 j t d
 funext p;by_cases e:p=2*n+3
 .exact J e<|J aR<|J (S _ (by exact@Gb _)) I
 .refine J (aG e) ?_;by_cases e:p=2*n+2
  .exact J e<|J aR<|J (S _ (by exact@Gc _)) I
  .exact J (aG e) I
def dD.v(p:dD)(n:O):dD:={p with q:=aw p.q (n+1) au}
theorem fH.v(T:bG n t)(h:fH n t p):fH (n+1) (t.v n)<|p.v n:=by
 refine dC h.f λr A b Q c=>⟨dQ r A b Q λi x M=>J (show(p.v n).q (ao x)=p.q (ao x)from aG<|no (T.s i x M).1.2)<|c i x M,λa P g=>?_⟩
 .refine(?_:aw p.q (n+1) au a=au);haveI g:aw t.b (n+1) 0 a=0:=g;by_cases e:a=n+1
  .exact J e<|J aR I
  .rw[aG e]at g⊢;exact h.w a (l1 e P) g
theorem el.v(P:el G n m p r):el G (n+1) m (p.v n) r:=⟨P.b,P.a,λk q M o z=>(P.i k q M o z).imp id λX=>ay X λb a h=>aF b (j0 a)<|(aG<|no a).trans h⟩
theorem dp.v(T:bG n t)(Q:dp G n m t a r p):dp G (n+1) m (t.v n) a r<|p.v n:=⟨Q.b.v T,Q.d,Q.c.v⟩
def aB.v(s:aB)(n m:O)(h:ej):aB:={s with b:=s.b.v n,d:=nj (n+1) m,j:={s.j with o:=aw s.j.o (n+1)<|-1},c:=h,e:=s.e.v n,k:=aw (aw s.k (2*n+2) []) (2*n+3) [],f:=aw s.f (n+1) ax}
structure ur(n:O)(h c:ej):Prop where
 k:cZ (n+1) c
 d:c.d=aw h.d (n+1) 0
 a:c.b=h.b
 f:∀u,u<=n->(0<=c.c u↔0<=h.c u)
 b:0<=c.c (n+1)
theorem cp.v(a:cp G A n m q X M s)(H:ur n s.c S)(f:n+1<=4):cp G A (n+1) m q X M<|s.v n m S:=by
 haveI P:=λc g=>(a.o.d c g).1;refine⟨⟨I,f,a.b.c⟩,a.j.v,a.o.v,a.w.v P,(J (a.x.v P) a.x:eF m s.a (aw (aw s.k _ _) _ _)),a.c.v a.j,H.k,⟨a.d.b,J H.a a.d.a,λb P=>?_⟩,a.y,λu h=>?_,λu i d h=>?_,a.D,a.p,a.z,a.a,a.f,a.g,a.B⟩
 .refine(J H.d ?_:S.d b<=1000000*(q+if aw s.f (n+1) ax b=an then 1 else 0));by_cases e:b=n+1
  .exact J e<|J aR<|aR.symm▸(Sc as<|R4 (eT q)<|gz 0)
  .exact J (aG e)<|(aG e).symm▸(a.d.c b<|l1 e P)
 .refine(?_:aw s.f (n+1) ax u=ax);by_cases e:u=n+1
  .exact J e<|J aR I
  .exact(aG e).symm▸(a.h u<|l1 e h)
 .haveI h:aw s.b.b (n+1) 0 u=0:=h;by_cases e:u=n+1
  .exact J e H.b
  .rw[aG e]at h;exact(H.f u<|l1 e d).mpr<|a.t u i (l1 e d) h
theorem gI.v(F:gI G n m q X s)(H:ur n s.c l)(a:n+1<=4):gI G (n+1) m q X<|s.v n m l:=by
 refine⟨⟨I,a,F.b.c⟩,F.j.v,F.a,F.c.v,H.k,J H.a F.o,λu h=>(?_:aw s.f (n+1) ax u=ax),F.p,F.d,F.f,F.g⟩;by_cases e:u=n+1
 .exact az e<|J aR I
 .exact J (aG e)<|F.h u<|l1 e h
theorem Dp(z:cD n m s.d)(p:n+1<=4)(A:cZ n s.c)(B:∀g i,ur n s.c g->aT c i->i.m=c.m->K (.a (n+1:O)) (s.v n m g) i):aO a2 (d+6) 39 [.b 0] (bJ K)<|aL s c:=by
 let r:={s with d:=nj n m};haveI D:r=s:=(az z.d I:({s with d:=nj n m}:aB)=s);haveI l:n+1<bi:=cX p as;let u:={r with d:={r.d with f:=n+2},f:=aw s.f (n+1) ax};let w:={u with d:={u.d with q:=n+2},e:=s.e.v n};let t:={w with d:={w.d with b:=n+2},b:={s.b with b:=aw s.b.b (n+1) 0}};let N:={t with d:={t.d with e:=n+2},b:={t.b with e:=aw s.b.e (n+1) 0}};let H:={N with d:={N.d with j:=n+2},b:={N.b with j:=aw s.b.j (n+1)<|-1}};let v:={H with d:={H.d with h:=n+2},b:=s.b.v n};let x:={v with d:={v.d with o:=n+2},j:={s.j with o:=aw s.j.o (n+1)<|-1}};let y:={x with d:={x.d with k:=2*n+3},k:=aw s.k (2*n+2) []};let E:={y with d:={y.d with k:=2*n+4},k:=aw (aw s.k (2*n+2) []) (2*n+3) []};haveI F:aO a2 (d+6) 39 [.b 0] (bJ K)<|aL r c:=by refine cb I I I<|p5 ⟨I,bk⟩ I l bk u I ⟨I,bk⟩ I l bk<|aF w I (cb I I I<|aP I (f4 l) (?_:bs _ _ _ [.b 0,.a (n+1:O)] w c):aO a2 (d+5) 22 [.b 0] (bJ _) (aL w c));exact p5 ⟨I,bk⟩ I l bk t I ⟨I,bk⟩ I l bk<|h2 N I ⟨I,bk⟩ I l bk<|h2 H I ⟨I,bk⟩ I l bk ⟨v,I,⟨I,bk⟩,I,l,bk,x,I,jK ⟨I,bk⟩ I (tO (cX (show 2*n+2+1<=11 by exact zE p) as:2*n+2+1<bi)) c.d<|h3 [] y I aR I<|jK ⟨I,bk⟩ I (cX (show 2*n+2+1<=11 by exact zE p) as:2*n+2+1<bi) (c.d+1)<|h3 [] E I aR I<|PM I (aP I I<|SS p) p A λg G T L M P=>B g _ ⟨G,T,L,M,P⟩ ⟨js c.d 2,λQ C=>(aG<|bj<|er C).trans<|(aG<|bj<|er C).trans<|(aG<|bj C).trans<|aG<|bj C⟩ I⟩
 rwa[D]at F
theorem Do(i:dy G n X M s)(j:n+1<=4)(h:∀g f,dy G (n+1) X M g->aT c f->f.m=c.m->K (.a (n+1:O)) g f):aO a2 (d+6) 39 [.b 0] (bJ K)<|aL s c:=by refine bb ?_;intro p;exact aE i (λk=>gi k λA m q i W=>Dp i.b j i.k λl f H e r=>h _ f (aK<|h4 A m q (i.v H j)<|W.v λc o=>(i.o.d c o).1) e r) λk=>f2 k λm q F=>Dp F.b j F.k λl f H e r=>h _ f (a1<|fu m q<|F.v H j) e r
end
end
mutual
def pZ(D:U am)(j:am):U am:=if j∈D then D else D++[j]
theorem ml:x∈pZ D j↔x∈D\/x=j:=by
 unfold pZ;by_cases h:j∈D
 .exact J (a9 h) ⟨aK,λg=>aE g id λe=>J e h⟩
 .rw[bf h,cK,b9]
theorem MR(h:(b0 D)):b0 (pZ D j):=by
 unfold pZ;by_cases g:j∈D
 .exact J (a9 g) h
 .exact J (bf g)<|fN.mpr<|aP h (dO.mpr ⟨fO,fm⟩) λa s b c e=>g (by rw[b9]at c;exact az (bx e c) s)
theorem RN:(aD D).map (λx=>V.a<|kr x)=aD D:=by unfold aD;exact J go I
theorem C8(h:hc ax (aD D) (aD D) T):∃o,o.Perm D/\T=aD o:=by obtain⟨o,a,b,_⟩:=qy (λp=>I) (J RN h);exact aF o a b
structure lV(a:U dw)(B:U am)(o:am)(D:U am)(i:am):Prop where
 j:o∈D
 g:b0 D
 h:∀x∈D,x∈o::B
 e:∀x∈D,0<=x/\x<=o
 b:∀x∈D,o-i<x->∀p,a[(bM x)]?=Y p->∀y∈p.i,y∈D
end
section
variable{d n m q X M:O}{s:aB}{c:aJ}{K:br}{G:U (U am)}{B:U am}
mutual
theorem wy{e d u:O}{q:dw}(x:L[e]?=Y (.b 2))(n:L[d]?=Y (.a u))(M:s.e.l[u]?=Y q)(A:Z s.e.l<=1000)(h:K q.q s c):bh C (.i (.f (.c e) 2 13)<|.c d) L K s c:=(gt x ar (gt n ar<|aP I (eG (dB M) A) (J (show bS s.e.l u dw.c=q from J ih<|J M I) h:K (bS s.e.l u dw.c).q s c):k2 L d λw=>(mi λd s c=>nc (.j (.b 2 13)<|c.e<|.b 2 13) d K s c) w s c):k2 L e λv=>lt 2 v (mb s c 2 13 λv=>bh C (.c d) L (mi λd s c=>nc v d K s c) s c))
inductive pt(s:aB)(c:aJ)(B:U am)(o:O)(i:am):U V->aB->aJ->Prop|mk{d:aJ}(D:U am)(j f:V)(l:aT c d)(t:d.d=c.d+1)(z:d.a c.d=Y (.b<|eH D))(N:lV s.e.l B o D i):pt s c B o i [.b 2,.a o,.e c.d,j,f] s d
inductive yA(s:aB)(c:aJ)(B:U am)(o u:O)(i:am)(p:U am):U V->aB->aJ->Prop|mk{d:aJ}(D:U am)(z:V)(l:aT c d)(t:d.d=c.d+1)(f:d.a c.d=Y (.b<|eH D))(N:lV s.e.l B o D i)(h:(u:am)∈D)(r:∀x∈p,x∈D):yA s c B o u i p [.b 2,.a o,.e c.d,.a u,z] s d
theorem pt.b(e:a=i)(h:pt s c B o i L f g):pt s c B o a L f g:=J e h
set_option tactic.hygienic true in theorem DO{o l:O}{w:am}(Q:(o:am)-(l+1:O)<w)(f:w≠(o:am)-l):(o:am)-l<w:=by omega
theorem PQ{o:O}{y:V}(t':y=.a o)(d':Z s.e.l<=1000)(S:o<Z s.e.l)(u':∀(k:O)(l:dw),s.e.l[k]?=Y l->∀x∈l.i,0<=x/\x<k/\x∈B)(v':Z B<=60)(e':∀D E t k,lV s.e.l B o D (o+1)->E.Perm D->c.d<=k->k<t.d->t.a k=Y (.e<|aD E)->aT c t->K (.e k) s t):aO a2 (d+1) 68 [.b 2,y] (bJ K)<|aL s c:=by
 revert d s c K B o y;refine@hs _<|e0 @(letI d:=_;letI s:=_;letI c:=_;letI K:=_;letI B:=_;letI o:=_;letI y:=_;(e3 ?_:eE _ _ _ d s c K B o y));intros;refine J t' ?_;have n':∀{D:U am}{n:am},lV s.e.l B o D n->Z D<=61:=λ{D n}N=>aH (hx N.g N.h)<|fP v';refine cb I I I<|dM ?_;intro G' H';refine⟨bk,?_⟩;refine bN<|aP ⟨(aq [1,1,1,1] I:ap 3 0 [.g .a<|.c 1000,.e .b .a,.c .s .j] (.e .f<|.c<|2^30)) d' S<|gj<|@k9 _,by decide⟩ (a1 I) ⟨O,b2<|o+1,λn=>V.a<|o-n,λl=>pt s c B o (Z l),λl L o' t _=>v1<|@Gd _,?_,?_,?_⟩
 .refine .mk [o] _ _ (aT.b _) I aR ⟨gA _,dO.mpr ⟨fO,fm⟩,λx M=>az (b9.mp M)<|bu ..,λx M=>J (b9.mp M) ⟨@k9 _,@Gx _⟩,λx M F=>?_⟩
  .obtain rfl:=b9.mp M;exact be ((aq [1] I:ap 1 0 [.b (.d .g<|.p .i) .g] .i) F)
 .refineλl n I' L o' t H G=>G.casesOn λ{t}D w' f' T X R N=>aM (lx H) λx' y'=>?_;subst x';have r:(o:am)-Z l=((o-Z l:O):am):=(c8 [1,0,1] [1,1] I I:ap 3 0 [.a (.e .a .b) .f] (.c (.d .s .j) .g))<|cy<|(aq [1,1] I:ap 2 0 [.e .a<|.h .b] (.g .a .b)) y';refine r.symm▸?_;let u:=o-Z l;refine(?_:bs _ _ _ ([.b 2,.a o,.e c.d,.a (u:O),f']:U V) s t);refine Br R ⟨λF=>?_,λF=>?_⟩
  .haveI p':u<Z s.e.l:=cX (gC _ _) S;refine bH (⟨_,cl p'⟩:∃q,s.e.l[u]?=Y q) λq g'=>wy I I g' d' ?_;refine J4 as as (.g<|aD q.i) ⟨I,⟨am,q.i,V.a,yA s c B o u (Z l),λz' L q' z _=>jL,.mk D f' T X R N (bU F) λA' e'=>aC e' ar,?_,?_⟩⟩
   .refineλz' x J' L q' z B' G=>G.casesOn λ{z}a' C' b' h' i' W r' j'=>b6 (u' u q g' x<|J B'<|dN _<|bu ..) λD' k' E'=>na bk ((aq [1,1,1,1] I:ap 2 1 [.g .a<|.c 1000,.e .b .a,.b .a .j] (.b .a<|.c<|2^62)) d' p' k') (eH a') i' (J (show∀{D:U am},Z (eH D)=Z D fromλ{D}=>bv ..)<|cX (n' W) as) ?_
    .refine J vH<|.mk (pZ a' x) _ ⟨b'.d,λk s'=>(aG<|bj s').trans<|b'.a k s'⟩ h' aR ⟨ml.mpr<|aK W.j,MR W.g,λw m=>aE (ml.mp m) (λm=>W.h w m) λl'=>J l'<|cm _ E',λw m=>?_,λw m A C Q v P=>aE (ml.mp m) (λm=>ml.mpr<|aK<|W.b w m A C Q v P) λl'=>aA k'<|gW.mpr<|jY<|az r<|az l' A⟩ (ml.mpr<|aK r') λw m=>aE (cK.mp m) (λm=>ml.mpr<|aK<|j' w m) λm=>ml.mpr<|a1<|b9.mp m
     .rcases ml.mp m with m|rfl
      .exact W.e w m
      .exact⟨D',ey (jY k')<|eb.mpr<|gC _ _⟩
   .refineλL q' z G=>G.casesOn λ{z}a' C' b' h' i' W r' j'=>.b (aW ig bI)<|.mk a' _ _ b' h' i' ⟨W.j,W.g,W.h,W.e,λw m A C Q v P=>?_⟩;by_cases c':w=u
    .subst c';haveI Q:s.e.l[u]?=Y C:=Q;rw[g']at Q;exact j' v<|J (bE Q) P
    .exact W.b w m (DO A λH=>c'<|bx H r) C Q v P
  .exact .b (aW ig bI)<|.mk D _ _ T X R ⟨N.j,N.g,N.h,N.e,λw m A C Q v P=>N.b w m (DO A λH=>(λc'=>(cg F)<|az c' m:w≠u)<|bx H r) C Q v P⟩
 .refineλL o' t G=>G.casesOn λ{t}D w' f' T X R N=>?_;replace N:=ec▸N;refine dQ (aD D) (vB R) (λv P=>ay (bL.mp P) λn A' m'=>az m' ⟨n,I⟩) ?_ λK' S=>?_
  .exact J eI<|(aq [1,1] I:ap 1 0 [.g .a<|.c 61] (.e .a<|.c 64))<|n' N
  .exact ay (C8 S) λE F' m'=>J m'<|e' D E _ _ N F' (J X<|cO _) (b7 _) aR<|T.i<|aT.b _
theorem gQ{K:eX}(h:bh C t L (h5 (bs C a K L)<|bs C b K L) s c):bs C (.c t a b) K L s c:=h
theorem m2(h:bh C a L (λx s c=>bh C b L (λy s c=>l7 F x y K s c) s c) s c):bh C (.l F a b) L K s c:=h
theorem Bp(h:bh C e L (λv s c=>bh C a L (mi λj s c=>nc v j K s c) s c) s c):bh C (.i e a) L K s c:=h
theorem RP:aD (l.map λi:O=>i)=bQ l:=by unfold aD bQ;exact J go I
inductive yK(s:aB)(c:aJ)(G:U (U am))(o W:O)(E p:U am):U V->aB->aJ->Prop|mk{d:aJ}(F:U O)(z:V)(l:aT c d)(t:c.d+1<=d.d)(f:d.a W=Y (.e<|aD E))(L:d.a c.d=Y (.b<|eH<|F.map λi:O=>(i:am)))(r:∀x∈p,∀q,s.e.l[(bM x)]?=Y q->q.a="input"->∃i∈F,G[i]?=Y q.b)(n:∀i∈F,i<Z G)(g:Z F<=Z p):yK s c G o W E p [.b 2,.a o,.e c.d,z] s d
theorem P8(B':y=.a o)(k':Z s.e.l<=1000)(b':o<Z s.e.l)(C':∀(k:O)(A:dw),s.e.l[k]?=Y A->∀x∈A.i,0<=x/\x<k/\x∈B)(r':Z B<=60)(D':Z G<=1000)(R:∀(k:O)(A:dw),s.e.l[k]?=Y A->A.a="input"->∃l:O,A.d=.a l/\G[l]?=Y A.b)(r:∀D C t k,lV s.e.l B o D (o+1)->(∀x∈D,∀A,s.e.l[(bM x)]?=Y A->A.a="input"->∃l∈C,G[l]?=Y A.b)->(∀l∈C,l<Z G)->Z C<=61->c.d<=k->k<t.d->t.a k=Y (.e<|bQ C)->aT c t->K (.e k) s t):aO a2 (d+2) 69 [.b 2,y] (bJ K)<|aL s c:=by
 refine J B'<|cb I I I<|dM ?_;intro s' S';refine bN<|bN<|PQ I k' b' C' r' λD E T' E' c' d' F' U' G' v=>?_;have t':=aH (hx c'.g c'.h)<|fP r';refine⟨am,E,V.a,yK s c G o E' E,λA u' v' t z=>z.casesOn λF w' P P L P P P P=>fW L,.mk [] _ ((aT.b _).i v) v.d G' ((v.a c.d<|b7 _).trans aR) (λP r=>aC r ar) (λP r=>aC r ar)<|b4 _,?_,?_⟩
 .refineλA x V' u' v' t x' z=>z.casesOn λ{t}F w' N e' L f' g' h' T=>bb ?_;intro H';refine aM (c'.e x<|d'.mem_iff.mp<|J x'<|dN _<|bu ..) λI' J'=>?_;obtain⟨u,rfl⟩:∃u:O,x=u:=⟨bM x,(eU I').symm⟩;refine bH (⟨_,cl<|(aq [1,1,1] I:ap 3 0 [.e .a .b,.d .s .g] (.e .f .b)) b' J'⟩:∃q,s.e.l[u]?=Y q) λq S=>?_;let s':U V:=[.b 2,.a o,.e c.d,.a u];refine(?_:bs _ _ _ s' s t);refine gQ<|m2<|Bp<|wy I I S k' ?_;refine eP as as _ I<|aP (.p _ _) (λX=>?_) λX=>?_
  .refine ay (R u q S (by haveI X:=bU X;cases l':q.a;rw[l']at X;injection X)) λl m' Q=>?_;haveI K':Z (eH<|F.map λl:O=>l)<bi:=by unfold eH;rw[bv,bv ..];exact cX (show Z F<=61 by exact(aq [1,1,1,1] I:ap 3 0 [.g .a .b,.e .b .f,.g .f<|.c 61] (.g .a<|.c 61)) T (J x'<|J bI<|j1<|gD _:Z A<Z E) (J (fK d') t':Z E<=61)) as
   refine(λn' L'=>Bp<|wy I I S k'<|eP as as q.d I<|J m' L':∀n',(n' (.a l) s t)->bh (aO a2<|d+1) (.i (.i (.f (.c 0) 2 13)<|.c 3)<|.a 3) [.b 2,.a o,.e c.d,.a u] n' s t) _<|na bk ((aq [1,1,1] I:ap 2 0 [.g .a<|.c 1000,.e .b .a] (.b .j<|.c<|2^62)) D'<|dB Q) (eH<|F.map λl:O=>l) f' K'<|J vH ?_;let i':=if l∈F then F else F++[l];haveI v:(if(l:am)∈F.map (λl:O=>(l:am))then F.map (λl:O=>(l:am))else F.map (λl:O=>(l:am))++[(l:am)])=i'.map λl:O=>(l:am):=by
    refine(?_:_=(if l∈F then F else F++[l]).map _);by_cases m:l∈F
    .exact J (a9 m)<|J (a9<|bL.mpr<|aF l m I) I
    .rw[bf m,bf,dY]
     .rfl
     .rintro w;exact ay (bL.mp w) λH o' p'=>m<|az (de p') o'
   have q':∀H,H∈i'↔H∈F\/H=l:=λH=>by
    refine(?_:H∈(if l∈F then F else F++[l])↔_);by_cases m:l∈F
    .exact J (a9 m) ⟨aK,λw=>aE w id λw=>J w m⟩
    .rw[bf m,cK,b9]
   haveI M':Z i'<=Z F+1:=by
    refine(?_:Z (if l∈F then F else F++[l])<=_);by_cases m:l∈F
    .exact J (a9 m)<|cO _
    .exact J (bf m)<|J bI<|b4 _
   refine v.symm▸(.mk i' _ ⟨N.d,λk y'=>(aG<|bj y').trans<|N.a k y'⟩ e' ((aG<|gB F').trans L) aR (λw n a' M h=>?_) (λH N'=>aE ((q' H).mp N') (λw=>h' H w) λO'=>J O'<|dB Q)<|J bI<|y9 T M')
   .rcases cK.mp n with n|n
    .exact ay (g' w n a' M h) λH o' p'=>aF H ((q' H).mpr<|aK o') p'
    .obtain rfl:=b9.mp n;haveI M:s.e.l[u]?=Y a':=M;rw[S]at M;exact aF l ((q' l).mpr<|a1 I)<|az (bE M) Q
  .refine .mk F _ N e' L f' (λw n a' M h=>bb ?_) h'<|J bI<|j0 T;intro H';refine aE (cK.mp n) (λn=>g' w n a' M h) λn=>?_
   .obtain rfl:=b9.mp n;haveI M:s.e.l[u]?=Y a':=M;rw[S]at M;exact aA (J (bE M) h) λl'=>cg X<|aW V.p l'
 .refineλu' v' t z=>z.casesOn λ{t}F w' N e' L f' g' h' T=>?_;have z':Z E<=61:=J (fK d') t';refine dQ (aD<|F.map λl:O=>l) (vB f') (λW' P'=>ay (bL.mp P') λl P W=>az W ⟨l,I⟩) ?_ λX' b'=>?_
  .rw[eI,bv];exact(aq [1,1,1] I:ap 2 0 [.g .a .b,.g .b<|.c 61] (.e .a<|.c 64)) T z'
  .refine ay (C8 b') λC j' W=>J W ?_;haveI Q':C=(C.map bM).map λl:O=>(l:am):=by refine J go ((kQ λw n=>ay (bL.mp<|j'.mem_iff.mp n) λl P W=>az W ?_).trans<|xE C).symm;rfl
   have A':∀l,l∈C.map bM↔l∈F:=λl=>by
    rw[bL];constructor
    .rintro⟨w,n,rfl⟩;exact ay (bL.mp<|j'.mem_iff.mp n) λl R W=>az W R
    .exactλR=>aF l (j'.mem_iff.mpr<|bL.mpr<|aF l R I) I
   refine r D (C.map bM) _ t.d c' (λx R' q S h=>ay (g' x (d'.mem_iff.mpr R') q S h) λl m' Q=>aF l ((A' l).mpr m') Q) (λl R=>h' l<|(A' l).mp R) ?_ (aH (cO _) e') (b7 _) ?_<|N.i<|aT.b _
   .rw[bv,fK j',bv];exact(aq [1,1,1] I:ap 2 0 [.g .a .b,.g .b<|.c 61] (.g .a<|.c 61)) T z'
   .refine(?_:aw t.a t.d _ _=_);exact J aR<|az RP<|Q'▸I
def eW(s:aB)(c:aJ)(y:V)(l:U V):Prop:=∀e,aT c e->ho y s e l
theorem eW.g:eW s c (.g l) l:=λp p=>jL
theorem eW.e(C:k<c.d)(h:c.a k=Y (.e l)):eW s c (.e k) l:=λb a=>fW<|(a.a k C).trans h
theorem HN{C:ei}{i:O}{b p:a5}{L:U V}(h:bh C b L (λa s c=>gH a i (λL K _=>bh C p L K) K L s c) s c):bh C (.y i b p) L K s c:=h
theorem AP{C:ei}{i:O}{p:a5}{L:U V}{G:V}{α:Type}(l:U α)(g f:α->V)(y:e6 i (Z L)=an)(A:eW s c G (l.map g))(m:Z l<=1000)(n:∀x∈l,g x≠.d)(o:∀x∈l,∀a,aT c a->∀b:br,(∀j,aT a j->b (f x) s j)->bh C p (L.set i<|g x) b s a)(q:∀a,aT c a->K (.e a.d) s (a.b<|.e<|l.map f)):gH G i (λL K _=>bh C p L K) K L s c:=gH.e (R:=aT c) l g f y aT.j A m n (λx M a k b h=>o x M a k b λj r=>h j<|k.i r) q
theorem pU{α:Type}(l:U α)(g f:α->V)(m:∀b,b j s c->bh C k L b s c)(n:e6 i (Z L)=an)(A:eW s c j (l.map g))(o:Z l<=1000)(q:∀x∈l,g x≠.d)(r:∀x∈l,∀a,aT c a->∀b,(∀h,aT a h->b (f x) s h)->bh C p (L.set i<|g x) b s a)(t:∀a,aT c a->K (.e a.d) s (a.b<|.e<|l.map f)):bh C (.y i k p) L K s c:=m _<|AP l g f n A o q r t
theorem vC{α:Type}(l:U α)(g f:α->V)(b:α->ba)(n:∀j,j p s c->bh o r L j s c)(y:e6 i (Z L)=an)(A:eW s c p (l.map g))(q:Z l<=1000)(v:∀x∈l,g x≠.d)(D:∀x∈l,∀a,aT c a->∀j,(∀k,aT a k->j (.h<|b x) s k)->bh o t (L.set i<|g x) j s a)(w:∀x∈l,∀a,aT c a->∀j,j (f x) s a->bh o u (L.set i<|g x) j s a)(z:∀a,aT c a->K (.e a.d) s (a.b<|.e<|(l.filter b).map f)):bh o (.C i r t u) L K s c:=n _<|gH.a l g f b y aT.j A q v (λx M a m j B=>D x M a m j λk E=>B k<|m.i E) w z
def c0(w:U ba):V:=.g<|w.map V.h
def ds(w:U ba)(x:am):ba:=bS w (ao x-1) ax==a0 (0<x)
theorem Dx(j:y=c0 w)(E:z=.a x)(M:bt (Z w) x)(t:Z w<=4)(k:K (.h<|ds w x) s c):aO a2 (d+1) 72 [y,z] (bJ K)<|aL s c:=by
 subst j E;haveI e:ao x-1<Z w:=n4 M.2<|cy<|k8<|jn.mpr M.1;haveI l:(ao x:am)-1=(ao x-1:O):=n5<|cy<|k8<|jn.mpr M.1;obtain⟨b,f⟩:∃b,w[ao x-1]?=Y b:=⟨_,cl e⟩;haveI n:(w.map V.h)[(bM ((ao x-1:O):am))]?=Y (.h b):=by refine J fL<|J f ?_;rfl
 refine cb I I I (?_:let i:=_;bs _ _ _ i _ _);intro i;refine(?_:nc (c0 w) (ao x-1) _ s c);refine J l<|eP (eT _) (r5 t e) (.h b) n ⟨.h _ _,?_⟩;haveI p:a0 (V.h b=V.h (a0<|0<x))=ds w x:=by
  refine J (show ds w x=(b==a0 (0<x))from by unfold ds;refine J ih<|f.symm▸?_;rfl) ?_;by_cases g:b=a0 (0<x)
  .exact J (fC<|aW V.h g)<|J g (yj _).symm
  .exact J (io λq=>g (by injection q)) (FA.mpr g).symm
 exact J p k
theorem pM(z:c.a k=Y (.e l))(a:ge l)(d:Z l<=1000)(f:a0 (V.h an∈l)=b)(g:K (.h b) s c):gy s c (.e k) λx=>x.a=an/\ge x.g/\x.k<=bi/\K (.h<|a0<|V.h an∈x.g) s c:=h2 (.c l) z I I a (aH d as)<|J f g
theorem Ah(z:c.a k=Y (.e l))(a:ge l)(d:Z l<=1000)(f:a0 (V.h ax∉l)=b)(g:K (.h b) s c):gy s c (.e k) λx=>x.a=an/\ge x.g/\x.k<=bi/\K (.h<|a0<|V.h ax∉x.g) s c:=h2 (.c l) z I I a (aH d as)<|J f g
theorem pL{α:Type}{l:U α}{f:α->ba}:a0 (V.h an∈l.map λx=>V.h (f x))=l.any f:=by
 by_cases g:l.any f=an
 .refine J g<|bb ?_;intro p;exact ay (lF.mp g) λx A i=>fC<|bL.mpr<|aF x A<|aW V.h i
 .exact J (oT.mpr g)<|io λh=>g<|ay (bL.mp h) λx A i=>lF.mpr<|aF x A (by injection i)
theorem Ag{α:Type}{l:U α}{f:α->ba}:a0 (V.h ax∉l.map λx=>V.h (f x))=l.all f:=by
 by_cases g:l.all f=an
 .refine J g<|fC λh=>ay (bL.mp h) λx A i=>?_;haveI:=gl.mp g x A;injection i with i;replace this:=i▸this;exact aC this ar
 .refine J (oT.mpr g)<|io λh=>g<|gl.mpr λx M=>?_;cases e:f x
  .exact aA (bL.mpr<|aF x M<|aW V.h e) h
  .rfl
theorem mW{α:Type}{l:U α}{f:α->ba}:ge<|l.map λx=>V.h<|f x:=λv P=>ay (bL.mp P) λx p H=>az H ⟨_,I⟩
theorem pK(a:bh C e L (λv s c=>gy s c v λx=>x.a=an/\ge x.g/\x.k<=bi/\K (.h<|a0<|V.h an∈x.g) s c) s c):bh C (.H e) L K s c:=a
theorem Af(b:bh C e a (λv s c=>gy s c v λx=>x.a=an/\ge x.g/\x.k<=bi/\K (.h<|a0<|V.h ax∉x.g) s c) s c):bh C (.L e) a K s c:=b
theorem wW(g:y=c0 w)(E:eW s c z (aD l))(b:z≠.d)(M:∀x∈l,bt (Z w) x)(f:Z l<=100)(t:Z w<=4)(i:∀a,aT c a->K (.h<|l.any<|ds w) s a):aO a2 (d+2) 73 [y,z] (bJ K)<|aL s c:=J g<|cb I I (qn ar b)<|mq<|pK<|pU l V.a (λx=>.h<|ds w x) (λj W=>eB I b W) I E (aH f as) (λp p=>ar) (λx F a e j W=>Dx I I (M x F) t<|W a aT.j) λa e=>pM aR mW (by rw[bv];exact za f) pL<|i _<|e.i<|aT.b _
theorem tj(g:y=c0 w)(E:eW s c z (aD l))(b:z≠.d)(M:∀x∈l,bt (Z w) x)(f:Z l<=100)(t:Z w<=4)(i:∀a,aT c a->K (.h<|l.all<|ds w) s a):aO a2 (d+2) 74 [y,z] (bJ K)<|aL s c:=J g<|cb I I (qn ar b)<|mq<|Af<|pU l V.a (λx=>.h<|ds w x) (λj W=>eB I b W) I E (aH f as) (λp p=>ar) (λx F a e j W=>Dx I I (M x F) t<|W a aT.j) λa e=>Ah aR mW (by rw[bv];exact za f) Ag<|i _<|e.i<|aT.b _
theorem Qi(A:hR C)(h:bh C a L (λv s c=>∃l,(aL s c).i v=Y l/\wQ l/\Z l<64/\∀T,(∀x,x∈T↔x∈l)->(b0 T)->T.Pairwise jb->K (.e c.d) s (c.b<|.e T)) s c):bh C (.ae a) L K s c:=h
inductive un(n:O)(s:aB)(c:aJ)(k i:O):U V->aB->aJ->Prop|mk{b:aJ}(F:U am)(w:am)(u v:V)(l:aT c b)(t:b.d=c.d+1)(z:b.a c.d=Y (.e<|aD F))(P:∀y∈F,bt n y)(L:Z F=i):un n s c k i [.a w,.a k,.a n,.e c.d,u,v] s b
theorem Dh(W:x=.a A)(G:y=.a k)(u:z=.a n)(Q:k<=10)(v:1<=n)(a':n<=4)(H:∀F l t,(∀y∈F,bt n y)->Z F=k->aT c l->c.d<=t->t<l.d->l.a t=Y (.e<|aD F)->K (.e t) s l):aO a2 (d+1) 70 [x,y,z] (bJ K)<|aL s c:=by
 subst W G u;refine cb I I I<|bN ?_;refine bN<|aP ⟨by decide,(aq [1,1,1] I:ap 2 0 [.g .a<|.c 10,.c .j .g] (.e .b<|.c<|2^30)) Q<|gj<|@k9 _⟩ (aK I) ⟨O,b2 k,λR=>V.a<|0+R,λp=>un n s c k (Z p),λp L X l _=>mh<|@sc _,.mk [] _ _ _ (aT.b _) I aR (λb' H=>aC H ar) I,?_,?_⟩
 .refineλp R m' L X l c' M=>M.casesOn λ{l}F w d' e' D N E P B=>aM (lx c') λf' g'=>?_;subst f';haveI C:(0:am)<2*n:=(aq [1,1] I:ap 1 0 [.g .k .a] (.b .i<|.m 2 .g)) v;haveI h':=Int.emod_lt_of_pos w C;haveI S:∀x:am,bt n x->sh (.e c.d) (.a x) (λb' i' j'=>un n s c k (Z (p++[Z p])) [.a<|w/(2*n),.a k,.a n,.e c.d,.a<|(0:am)+Z p,.a<|w%(2*n)] i' j') s l:=λx k'=>by
   refine dQ (aD F) E (J eI<|cX (by exact(aq [1,1,1,0,1] I:ap 3 0 [.g .a<|.c 10,.a .b .f,.e .f .a] (.g .b<|.c 10)) Q B g':F.length<=10) as) bk<|.mk (F++[x]) _ _ _ ⟨D.d,λl' T=>(aG<|bj T).trans<|D.a l' T⟩ N ?_ (λy G=>aE (cK.mp G) (λq=>P y q) λq=>J (b9.mp q) k')<|J bI<|J bI<|B▸I
   .refine(J aR ?_:aw l.a c.d _ _=_);unfold aD;exact J dY I
  exact ko as C as ⟨C,(aq [1,2] I:ap 1 0 [.g .a<|.c 4] (.b (.m 2 .g)<|.c 1073741824)) a'⟩ (bO (.o F) E I bk) (λq=>S (w%(2*n)+1) ⟨(aq [1,0,1] I:ap 0 1 [.d .i .a] (.j (.h .a) .i))<|R6 w<|Se C,(aq [1,1,1] I:ap 2 1 [.b .a .g,.c .j<|.h .a] (.g .b .a)) (bU q:w%(2*n)<n)<|gj<|(aq [1,1] I:ap 0 1 [.d .i .a] (.d .i<|.h .a))<|R6 w<|Se C⟩) λq=>S (n-w%(2*n)-1) ⟨(aq [0,1,1] I:ap 1 1 [.f<|.b .a .g] (.j (.d (.d .g .a) .k) .i)) (cg q:¬w%(2*n)<n),(aq [1,1,1] I:ap 2 1 [.b .a<|.m 2 .g,.c .j<|.r<|.d (.d .g .a) .k] (.g .b .a)) h'<|oZ<|(aq [1,1] I:ap 1 1 [.f<|.b .a .g] (.d (.d (.d .g .a) .k) .i)) (cg q:¬w%(2*n)<n)⟩
 .refineλL X l M=>M.casesOn λ{l}F w d' e' D N E P B=>?_;rw[ec]at B;exact H F l c.d P B D (b4 _) (J N<|b7 _) E
theorem vY(b:c.a k=Y (.e<|aD l))(C:K (.h<|a0<|x∈l) s c):l7 fp (.a x) (.e k) K s c:=by haveI d:(aL s c).u (.e k)=Y (aD l):=BB<|h6 (s:=s) b;exact bO (aD l) d ⟨sv,λp=>⟨x,I⟩⟩<|J (j6.mpr s1) C
theorem Qj{l:U am}{T:U V}(A:∀x,x∈T↔x∈(l.map λx=>V.a (ao x)))(i:(b0 T))(Q:T.Pairwise jb):∃D:U O,T=bQ D/\D.Pairwise (·<·)/\∀v,v∈D↔∃x∈l,ao x=v:=by
 haveI e:T=bQ (T.map λx=>bM (kr x)):=by unfold bQ;exact J go ((kQ λx M=>ay (bL.mp<|(A x).mp M) λy p W=>az W I).trans<|xE T).symm
 haveI m:∀v,v∈T.map (λx=>bM (kr x))↔∃x∈l,ao x=v:=λv=>by
  rw[bL];constructor
  .rintro⟨x,M,rfl⟩;exact ay (bL.mp<|(A x).mp M) λy c W=>az W<|aF y c I
  .exactλd=>ay d λy c f=>az f<|aF _ ((A _).mpr<|bL.mpr<|aF y c I) I
 refine bO _ e ?_ m;rw[iQ];refine(i.and Q).imp_of_mem λ{a b}s h g=>ay (bL.mp<|(A a).mp s) λx p W=>?_;subst W;refine ay (bL.mp<|(A b).mp h) λy p W=>?_;subst W;exact lK (eb.mp g.2) λe=>g.1<|az (show ao x=ao y from e) I
inductive yI(s:aB)(c:aJ)(k:O)(l p:U am):U V->aB->aJ->Prop|mk(z:V)(a:∀x∈p,-x∉l):yI s c k l p [.e k,z,.d,.d,.d] s c
inductive rY(s:aB)(c:aJ)(k N m:O)(z:V)(l:U am)(D p:U O):U V->aB->aJ->Prop|mk{a:aJ}(g:U am)(b:V)(f:aT c a)(t:N<=a.d)(h:a.a m=Y (.e<|bQ D))(i:a.a c.d=Y (.e<|aD g))(Q:g.map ao=p)(G:∀x∈g,x∈l):rY s c k N m z l D p [.e k,z,.e c.d,b,.d] s a
set_option tactic.hygienic true in theorem Dw{k:O}{y:V}{m:U am}(w:y=.e k)(b':k<c.d)(F:c.a k=Y (.e<|aD m))(P:∀x∈m,bt 4 x)(S:Z m<=10)(o':∀u,(∃x∈m,-x∈m)->aT c u->K .z s u)(p':∀t u,(∀x∈m,-x∉m)->eu t->(∀x,x∈t↔x∈m)->aT c u->K (.g<|aD t) s u):aO a2 (d+1) 71 [y] (bJ K)<|aL s c:=by
 refine J w ?_;refine cb I I I ?_;refine dM ?_;intro T I';refine bN ⟨am,m,V.a,yI s c k m,?_,.mk _ λn h=>aC h ar,?_,?_⟩
 .exactλp L c' u G=>G.casesOn λB n=>fW F
 .refineλp x q' L c' u H G=>G.casesOn λB r'=>?_;let T:U V:=[.e k,.a x,.d,.d,.d];refine gQ<|vY F ⟨λt=>o' c (aF x (J H<|dN _<|bu ..)<|bU t) aT.j,λt=>.mk _ λy w=>?_⟩;refine aE (cK.mp w) (λw=>?_) λw=>?_
  .exact r' y w
  .exact J (b9.mp w)<|cg t
 refineλL c' u G=>G.casesOn λB d'=>?_;refine bN ?_;let T:U V:=[.e k,B,.e c.d,.d,.d];refine(?_:bs _ _ _ T s (c.b<|.e<|aD []));let s':=c.b<|.e<|aD [];refine bN<|Qi (jz a2 d) ?_;refine lc m V.a (λx=>V.a (ao x)) (λt' W=>eB I ar W) I (fW<|(aG<|bj b').trans F) (aH S as) (λn n=>ar) (λx n t' W=>W) ?_;refine dQ _ (h6 aR) (λv u'=>(by refine ay (bL.mp u') λx M v'=>?_;refine az v' ?_;exact bO (ao x) I (jn.mpr (P x M).1) (P x M).2)) (by rw[bv];exact zb S) λJ' w' x' y'=>?_;refine ch (Qj w' x' y') λD z' X j=>?_;refine J z' ?_;let r:=s'.b<|.e<|m.map λx=>V.a (ao x);let e':=r.b<|.e<|bQ D;have f':Z D<=10:=by haveI:=hx (l₂:=m.map ao) (X.imp bj) λv P=>ay ((j v).mp P) λx A' B'=>bL.mpr<|aF x A' B';rw[bv]at this;exact(aq [1,1,1] I:ap 2 0 [.g .a<|.c 10,.g .b .a] (.g .b<|.c 10)) S this
 refine⟨O,D,λv:O=>V.a v,rY s c k e'.d r.d B m D,?_,?_,?_,?_⟩
 .exactλp L g' A G=>G.casesOn λt h' n n N n n n=>fW N
 .refine .mk [] _ ((aT.b _).i<|(aT.b _).i<|aT.b _) (b4 _) aR ?_ I λn h=>aC h ar;exact(aG<|bj<|er<|b7 _).trans<|(aG<|bj<|b7 _).trans aR
 .refineλp v q' L g' A H G=>G.casesOn λ{A}t h' C i' N R Q E=>?_;have a':Z (aD t)<bi:=by
   refine J eI ?_;have:Z t=Z p:=by rw[<-Q,bv]
   exact cX (show Z t<=10 by exact(aq [1,1,1,1] I:ap 3 0 [.g .a<|.c 10,.e .b .a,.a .f .b] (.g .f<|.c 10)) f' (by exact J H<|J bI<|j1<|gD _:p.length<D.length) this) as
  haveI j':∀x:am,x∈m->ao x=v->sh (.e c.d) (.a x) (λn C' D'=>rY s c k e'.d r.d B m D (p++[v]) [.e k,B,.e c.d,.a v,.d] C' D') s A:=λx M E'=>by
   refine dQ (aD t) R a' bk<|rY.mk (t++[x]) _ ⟨C.d,λF' k'=>(aG<|bj k').trans<|C.a F' k'⟩ i' ((aG<|gB<|er<|b7 _).trans N) ?_ (by refine J dY<|J Q<|E'▸?_;rfl) λy w=>?_
   .refine(?_:aw A.a c.d _ _=_);refine J aR ?_;unfold aD;refine J dY ?_;rfl
   .refine aE (cK.mp w) (λh=>?_) λh=>?_
    .exact E y h
    .exact J (b9.mp h) M
  refine ay ((j v).mp<|J H<|dN _<|bu ..) λx l' m'=>?_;refine⟨bO (.o t) R I bk,vY ((C.a k b').trans F) ⟨λh=>j' v (bU h) I,λh=>j' (-v) ?_<|du _⟩⟩;refine aE (xo x) (λq=>?_) λq=>?_
  .rw[m']at q;exact aA (q▸l')<|cg h
  .rw[m']at q;exact q▸l'
 .refineλL g' A G=>G.casesOn λ{A}t h' C i' N R Q E=>?_;haveI a':Z (aD t)<=bi:=by
   refine J eI ?_;haveI:Z t=Z D:=by rw[<-Q,bv]
   exact aH (by exact(aq [1,1,1] I:ap 2 0 [.g .a<|.c 10,.a .b .a] (.g .b<|.c 10)) f' this:t.length<=10) as
  haveI G':eC t:=by rw[<-Q,iQ]at X;exact X
  refine h2 (.o t) R I I (gw t) (by refine(?_:Z t<=bi);exact az (eI (l:=t)) a')<|p' t A d' ⟨G',λx M=>P x<|E x M⟩ (λx=>⟨E x,λM=>?_⟩) C;haveI:=(j (ao x)).mpr<|aF x M I;replace this:=Q.symm▸this;refine bb ?_;intro K';refine ay (bL.mp this) λy n' H'=>?_;rcases gd H' with rfl|rfl
  .exact n'
  .exact aA (E _ n')<|d' x M
end
end
mutual
def hm(W:U (U ba)):U<|U ba:=W.flatMap λw=>[w++[ax],w++[an]]
def jE:O->U (U ba)|0=>[[]]|k+1=>hm<|jE k
theorem Cb:w∈hm W↔∃v∈W,∃b,w=v++[b]:=by
 unfold hm;rw[tL];constructor
 .refineλa=>ay a λv P h=>?_;rcases cu.mp h with h|h
  .exact⟨v,P,ax,h⟩
  .exact⟨v,P,an,b9.mp h⟩
 .rintro⟨v,P,b,rfl⟩;refine aF v P ?_;cases b
  .exact bu ..
  .exact cm _<|bu ..
theorem sR:∀{W:U (U ba)},Z (hm W)=2*Z W|[]=>I|w::W=>J bI<|J sR<|@Ge _
theorem wj:∀{w:U ba},w∈jE a↔Z w=a:=by
 induction a with
 |zero=>exactλ{w}=>⟨λh=>by refine J (b9.mp h) ?_;rfl,λh=>J (iN.mp h)<|gA _⟩
 |succ a d=>
  intro w;refine(?_:w∈hm (jE a)↔_);rw[Cb];constructor
  .refineλc=>Ed c λv P b D=>J D<|J bI<|J (d.mp P) ?_;rfl
  .intro h;haveI f:w≠[]:=λe=>by rw[e]at h;exact aC h ar
   refine sH (iM w) (d.mpr (by refine J xC<|J h ?_;rfl)) (w.getLast f) (EA f).symm
end
section
variable{d n m q X M:O}{s:aB}{c:aJ}{K:br}{G:U (U am)}{B:U am}
mutual
theorem AK(v:L[f]?=Y (.e k))(y:i+1<Z L)(z:c.a k=Y (.e<|W.map c0))(F:Z W<=16)(x:∀w∈W,Z w<=4)(A:K (.e c.d) s (c.b<|.e<|(hm W).map c0)):bh C (.N i (.c f) (i+1) (.g<|.b (.h ax)<|.b (.h an) .d)<|.m cY (.c i)<|.g<|.b (.c<|i+1) .d) L K s c:=by
 refine cf (by unfold c5;exact J v I) ⟨Z W+1,sV W c0 (λp l X n=>X=s/\n=c/\l=(hm p).map c0/\Z p<=Z W) _ ?_ ?_ ?_ W [] [] s c I<|bV I I I<|f7 _⟩
 .rintro p l X n⟨rfl,rfl,_⟩;exact fW z
 .rintro p w r l X n q⟨rfl,rfl,rfl,B⟩P D;haveI t:Z (hm p)+1<bi:=cX (J sR<|(aq [1,2,2] I:ap 2 0 [.g .a<|.c 16,.g .b .a] (.g (.h<|.m 2 .b)<|.c 33)) F B:Z (hm p)+1<=33) as;haveI u:∀(j:ba)(Q:V->av->Prop)(o:av),Q (c0<|w++[j]) o->bA C (.m cY (.c i)<|.g<|.b (.c<|i+1) .d) ((L.set i<|c0 w).set (i+1)<|.h j) Q o:=λj Q o E=>by
   haveI G:c5 ((L.set i<|c0 w).set (i+1)<|.h j) i=Y (c0 w):=by unfold c5;exact J (jo<|qT i)<|J (jp<|tO y) I
   haveI T:c5 ((L.set i<|c0 w).set (i+1)<|.h j) (i+1)=Y (.h j):=by unfold c5;exact J (jp<|J jZ y) I
   refine cf G<|cf T<|aP (by decide:1<=bi) ?_<|az (show c0 (w++[j])=.g (w.map V.h++[.h j])from by unfold c0;exact J dY I) E;rw[bv];exact aH (by exact(aq [1,1] I:ap 1 0 [.g .a<|.c 4] (.g (.h .a)<|.c 5))<|x w<|J q<|dN _<|bu ..:w.length+1<=5) as
  haveI M:(hm<|p++[w]).map c0=(hm p).map c0++[c0<|w++[ax]]++[c0<|w++[an]]:=by unfold hm;rw[List.flatMap_append,dY,iL];rfl
  refine bV (tO y) y ar<|lk as 3 ?_;refine cf I<|aP ar ?_<|u ax _ _ ?_
  .rw[bv];exact tO t
  refine cf I<|aP ar ?_<|u an _ _ ?_
  .rw[bI,bv];exact t
  exact cf I<|D _ _ _<|bV I I M.symm (J q<|J bI<|J bI<|iR (fP<|f7 _) _:Z (p++[w])<=Z W)
 .rintro l X n⟨rfl,rfl,rfl,_⟩;exact dr _ _ I A
theorem BM(h:n<=4):Z (jE n)<=16:=qb h as as as as as
inductive ym(n:O)(s:aB)(c:aJ)(i:O):U V->aB->aJ->Prop|mk{b:aJ}(k:O)(z:V)(l:aT c b)(X:b.m=c.m)(H:c.d<=k)(B:k<b.d)(f:b.a k=Y (.e<|(jE i).map c0)):ym n s c i [.a n,.e k,z,.d,.d] s b
theorem Dd(o:y=.a n)(g:n<=4)(h:∀b k,aT c b->b.m=c.m->c.d<=k->k<b.d->b.a k=Y (.e<|(jE n).map c0)->K (.e k) s b):aO a2 (d+1) 75 [y] (bJ K)<|aL s c:=by
 refine J o<|cb I I I<|bN ?_;refine bN<|aP ⟨by decide,r9 g<|gj<|@k9 _⟩ (aK I) ⟨O,b2 n,λi=>V.a<|0+i,λp=>ym n s c (Z p),λp L j b _=>mh<|@sc _,.mk c.d _ (aT.b _) I (b4 _) (b7 _) aR,?_,?_⟩
 .refineλp i r L j b q G=>G.casesOn λ{b}k z l X H B f=>aM (lx q) λT m=>?_;subst T;exact dW<|AK I (by decide:4<5) f (BM<|zc g m) (λw t=>J (wj.mp t)<|zc g m)<|.mk b.d _ (l.i<|aT.b _) X (aH H<|f4 B) (b7 _) (J aR<|J bI I:aw b.a b.d _ _=_)
 .refineλL j b G=>G.casesOn λ{b}k z l X H B f=>?_;rw[ec]at f;exact h b k l X H B f
end
end
mutual
theorem lD:ds w x=an↔hT (λv=>bS w (v-1) ax) x:=by unfold ds hT;exact mL
def jj(w:U ba):O->ba:=λv=>bS w (v-1) ax
theorem Aj:l.any (ds w)=an↔fE (jj w) l:=by rw[lF];exact⟨λX=>ay X λx a b=>aF x a<|lD.mp b,λX=>ay X λx a b=>aF x a<|lD.mpr b⟩
theorem ty(h:x≠0):ds w (-x)=!ds w x:=by
 cases e:ds w x
 .exact lD.mpr ((hT.v h).mpr λg=>by replace e:=(lD.mpr g)▸e;exact aC e ar)
 .cases n:ds w (-x)
  .rfl
  .exact aA (lD.mp e)<|(hT.v h).mp<|lD.mp n
theorem lV.k{o:O}(N:lV f t o D (o+1))(g:∀a i,f[a]?=Y i->pz u f a i)(K:o<Z f)(j:∀x∈D,∀p,f[(bM x)]?=Y p->p.a="input"->fE w p.b):∀l,cL f o l->fE w l:=by
 haveI m:∀a:O,(a:am)∈D->∀p,f[a]?=Y p->fE w p.b:=by intro a;induction a using S2 with|_ a n=>exactλC p c=>aE (g a p c).b (λX=>aM X λA d=>j _ C p c A) λX=>aM X λd h=>h w λx M l s=>aM ((g a p c).e x M) λz v=>kK s λd r y E=>az E<|n (bM x) (n3 v<|eU<|l2 z) (J (eU z)<|N.b _ C (@Gf _ _) p c x M) r y
 exactλl F=>kK F λd p c H=>az H<|m o N.j p c
theorem el.k(P:el j t u p y)(c:∀g∈j,fE w g):∀o l,cL p.l o l->fE w l:=by
 haveI d:∀a:O,∀q,p.l[a]?=Y q->fE w q.b:=by
  intro a;induction a using S2 with
  |_ a f=>
   refineλq M=>bb ?_;intro H;rcases(P.a a q M).b with⟨_,_,i,_,h⟩|⟨_,h⟩
   .exact c _<|dZ h
   .exact h w λx s l v=>aM ((P.a a q M).e x s) λz A=>kK v λB r C D=>az D<|f (bM x) (n3 A<|eU<|l2 z) r C
 exactλo l F=>kK F λB q M E=>az E<|d _ q M
end
section
variable{d n m q X M:O}{s:aB}{c:aJ}{K:br}{G:U (U am)}{A B F:U am}
mutual
theorem Kt(a:L[i]?=Y (.g l))(b:K (.h an) s c):bh C (.ag<|.c i) L K s c:=gt a ar b
theorem KM(h:L[i]?=Y (.g<|aD l))(m:(b0 l))(n:Z l<64)(o:K (.a (Z l)) s c):bh C (.ad<|.c i) L K s c:=by
 refine gt h ar<|aP (λv P=>ay (bL.mp P) λx u H=>az H ⟨x,I⟩) (J eI n) λk X=>ch X λD p d q=>?_;haveI e:k=Z l:=by
  haveI r:b0 (aD l):=by unfold aD;rw[b0,iQ];exact m.imp λt e=>t (by injection e)
  haveI A:=hx p λx M=>(d x).mp M;haveI j:=hx r λx M=>(d x).mpr M;rw[eI]at A j;exact(dR [1,0,1,1] [1,1,0,0,1] I I:ap 3 0 [.a .a .b,.g .a .f,.g .f .a] (.a .b .f)) q A j
 exact J e o
theorem MW(b:K (.h<|a0<|x∉l) s c):l7 mC (.a x) (.g<|aD l) K s c:=bO (aD l) I ⟨sv,λq=>aC q ar⟩<|J (j6.mpr<|not_congr s1) b
end
end
mutual
structure gL(n:O)(G:U (U am))(W:U (U ba)):Prop where
 h:∀w,w∈W↔Z w=n/\∀g∈G,fE (jj w) g
 k:Z W<=16
 a:Z W<=2^n
structure fR(n:O)(G:U (U am))(W:U (U ba))(a kw:O)(c:aJ):Prop where
 d:a<c.d
 e:c.a a=Y (.e<|G.map λg=>V.g<|aD g)
 f:kw<c.d
 h:c.a kw=Y (.e<|W.map c0)
 q:∀g∈G,(∀y∈g,bt n y)/\Z g<=4
 j:Z G<=1000
 b:gL n G W
 i:n<=4
theorem fR.ext(h:fR g k l o u p)(e:aT p r):fR g k l o u r:=⟨ci h.d e.d,(e.a _ h.d).trans h.e,ci h.f e.d,(e.a _ h.f).trans h.h,h.q,h.j,h.b,h.i⟩
theorem HT:∃b:U am,Z b<=m+(n+1)/\∀o,hb n m p stp o->o∈b:=by
 refine aF ((b2 m).map stp++(b2<|n+1).filterMap p.q) ?_ λo h=>?_
 .rw[bI,bv,ec];refine iR ?_ _;haveI:=Sx p.q<|b2<|n+1;rwa[ec]at this
 .refine bb ?_;intro a;exact aE h (λX=>ay X λc A i=>ii _<|bL.mpr<|aF c (ed.mpr A) i) λX=>ay X λv A i=>dN _<|SE.mpr<|aF v (ed.mpr<|mx A) i
end
section
variable{d n m q X M:O}{s:aB}{c:aJ}{K:br}{G:U (U am)}{A B F:U am}{W:U (U ba)}{a kw:O}
mutual
theorem HQ(Φ:V->aB->aJ->Prop)(a:∀P,(∀v b j,Φ v b j->P v b j)->bh C r L P s c)(h:∀v b j,Φ v b j->∃(α:Type)(l:U α)(g f:α->V),e6 i (Z L)=an/\eW b j v (l.map g)/\Z l<=1000/\(∀x∈l,g x≠.d)/\(∀x∈l,∀k,aT j k->∀o,(∀p,aT k p->o (f x) b p)->bh C t (L.set i<|g x) o b k)/\(∀k,aT j k->K (.e k.d) b (k.b<|.e<|l.map f))):bh C (.y i r t) L K s c:=HN<|a _ λv b j m=>bD (h v b j m) λα h=>bD h λl h=>bD h λg h=>bD h λf h=>AP l g f h.1 h.2.1 h.2.2.1 h.2.2.2.1 h.2.2.2.2.1 h.2.2.2.2.2
theorem pJ(d:bh C e L (h5 (bh C b L K)<|K<|.h ax) s c):bh C (.t e b) L K s c:=d
theorem qs(d:bh C e L (h5 (K<|.h an)<|bh C b L K) s c):bh C (.B e b) L K s c:=d
theorem kZ.f(H:kZ A s.e F s.r)(P:el G n m s.e s.g)(L:∀y∈F,y≠0)(t:∀e∈G,fE (jj w) e):F.all (ds w)=ax:=by
 rw[oT];intro h;have h:=gl.mp h;rcases H.b with⟨_,x,a,i⟩|⟨o,l,_,a,_,i⟩
 .haveI b:=h _ i;rw[ty<|L x a,h x a]at b;exact aC b ar
 .refine ay (P.k t o l a) λy c d=>?_;haveI b:=lD.mpr d;rw[<-fl y,ty<|L _<|(i y).mp c,h _<|(i y).mp c]at b;exact aC b ar
theorem sg{α:Type}{l:U α}{f:α->ba}(h:∀x∈l,f x=ax):l.any f=ax:=xr.mpr λx M e=>by rw[h x M]at e;exact aC e ar
inductive yQ(s:aB)(c:aJ)(F:V->U V):U V->aB->aJ->Prop|mk{e:aJ}(z:V)(l:aT c e):yQ s c F (F z) s e
inductive yv(s:aB)(B:U am)(G:U (U am))(W:aJ)(u:O):V->aB->aJ->Prop|mk{a:aJ}(D:U am)(E:U O)(b:O)(N:lV s.e.l B u D (u+1))(c:∀x∈D,∀p,s.e.l[(bM x)]?=Y p->p.a="input"->∃i∈E,G[i]?=Y p.b)(d:∀i∈E,i<Z G)(f:Z E<=61)(g:b<a.d)(M:a.a b=Y (.e<|bQ E))(h:aT W a):yv s B G W u (.e b) s a
theorem PN(T:fR n G W a kw c)(P:el G n m s.e s.g)(ai':m<=50)(O':Z s.e.l<=1000)(L:kZ A s.e F s.r)(aj':s.n=aD F)(ak':∀t∈A,bt n t)(al':Z A<=10)(n':∀C,aT c C->K (.h an) s C):aO a2 (d+4) 76 [.b 0,.b 2,.e a,.a n,.e kw,.g<|aD A] (bJ K)<|aL s c:=by
 revert d n m s c K G A F W a kw;refine@hs _ ?_;refine eZ @(letI d:=_;letI n:=_;letI m:=_;letI s:=_;letI c:=_;letI K:=_;letI G:=_;letI A:=_;letI F:=_;letI W:=_;letI a:=_;letI kw:=_;(e2 ?_:eD _ _ _ d n m s c K G A F W a kw));intros;have N:=λt v'=>ak' t<|L.a t v';have u:=aH (hx L.g L.a) al';have P':=λw o=>((T.b.h w).mp o).1;refine cb I I I ?_;refine dM ?_;intro o' aM';refine bN<|dW<|wV ?_;refine J aj' ?_;let o':U V:=[.b 0,.b 2,.e a,.a n,.e kw,.g<|aD A,.g<|aD F,.d,.d,.d,.d,.d,.d,.d,.d,.d];refine(?_:bs _ _ _ o' s c);refine bN<|gQ ?_;refine qs<|ou<|Kt I ⟨λq=>aC q ar,λE=>?_⟩;refine qs<|pK<|lc F V.a (λx=>V.h<|a0<|x∉A) (λk S=>eB I ar S) I jL (aH u as) (λE E=>ar) (λx E k S=>MW S) ?_;refine pM (b:=ax) aR mW (by rw[bv];exact uS u) ?_ ⟨λq=>aC q ar,λE=>?_⟩
 .exact pL.trans<|sg λx X=>io λM=>M<|L.a x X
 refine m2<|KM I L.g (zb u)<|aP (J eI<|aH u as) (λM=>aA (aW ig eI.symm)<|bU M) λE=>?_;refine bN<|gQ<|pK ?_;refine pU W c0 (λw=>V.h<|F.all<|ds w) (λk S=>eB I ar S) I (eW.e (T.ext<|aT.b _).f (T.ext<|aT.b _).h) (aH T.b.k as) (λE E=>ar) (λw o Q' R' k S=>?_) λQ' R'=>?_
 .exact tj I eW.g ar (λx X=>J (P' w o)<|N x X) (r3 u) (J (P' w o) T.i) S
 refine pM (b:=ax) aR mW (by rw[bv];exact zd T.b.k) ?_ ⟨λq=>aC q ar,λE=>?_⟩
 .exact pL.trans<|sg λw o=>L.f P (λt v'=>(N t v').1) ((T.b.h w).mp o).2
 let S':=Q'.b<|.e<|W.map λw=>V.h<|F.all<|ds w;refine bN<|dW<|PJ ?_;have T':∀{h':V}{w':br},h'≠.d->(∀C,aT c C->w' (.h<|F.any λx=>a0<|-x∈F) s C)->bh (aO a2<|d+3) (.H<|.y 12 (.c 6)<|.l fp (.v<|.c 12)<|.c 6) [.b 0,.b 2,.e a,.a n,.e kw,.g<|aD A,.g<|aD F,h',.d,.d,.d,.d,.d,.d,.d,.d] w' s S':=λ{h' w'}U' am'=>by refine pK<|lc F V.a (λx=>V.h<|a0<|-x∈F) (λk S=>eB I ar S) I jL (aH u as) (λE E=>ar) (λx E k S=>p7 S) ?_;exact pM aR mW (by rw[bv];exact uS u) pL<|am' _<|((aT.b _).i<|R'.i<|aT.b _).i<|aT.b _
 rcases L.b with⟨x',x,y',z'⟩|⟨p',q',x',c',V',A'⟩
 .refine J x' ?_;refine bN<|gQ<|T' ar λW' B'=>⟨λE=>n' W' B',λM=>?_⟩;rw[lF.mpr<|aF x y'<|fC z']at M;exact aC M ar
 .refine J x' ?_;let o':U V:=[.b 0,.b 2,.e a,.a n,.e kw,.g<|aD A,.g<|aD F,.a p',.d,.d,.d,.d,.d,.d,.d,.d];refine(?_:bs _ _ _ o' s S');haveI an':=sg λx X=>io λM=>by haveI:=ls V' X M (du x).symm;exact(N x X).1<|y8 this
  refine bN<|gQ<|T' ar λW' B'=>?_;refine J an' ?_;refine⟨λq=>aC q ar,λE=>bN<|gQ<|qs ⟨λq=>aC q ar,λE=>?_⟩⟩;refine m2<|h9 I<|d7 ?_;refine ti I O' c' ?_;refine kg<|d7<|lc F V.a (λx=>V.a<|-x) (λk S=>eB I ar S) I jL (aH u as) (λE E=>ar) (λx E k S=>S) ?_;have ao':F.map (λx=>V.a<|-x)=aD (F.map λx=>-x):=by unfold aD;refine J go ?_;rfl
  have r':∀x,x∈(F.map λx=>-x)↔-x∈F:=λx=>by rw[bL];exact⟨λC'=>ay C' λt d' r=>az r<|J (fl t) d',λn'=>aF _ n'<|fl x⟩
  refine J ao' ?_;refine Dw I (b7 _) aR (λx X=>?_) (by rw[bv];exact u) (λX' C' _=>ay C' λx y' z'=>?_) λM X' aN' ap' aq' ar'=>?_
  .haveI:=(N _<|(r' x).mp X).v;rw[fl]at this;exact⟨this.1,aH this.2 T.i⟩
  .have r:=(r' _).mp z';rw[fl]at r;have:=ls V' ((r' x).mp y') r<|du x;have:=(N _ r).1;exact be (u6 (by assumption) (by assumption))
  .obtain rfl:q'=M:=eC.ext (P.b p' q' c').1 ap'.1 λx=>(A' x).trans ((r' x).symm.trans (aq' x).symm);haveI Y':iu<|aD q':=λh' U'=>by refine ay (bL.mp U') λx E as'=>?_;refine az as' ?_;exact⟨x,I⟩
   refine aP (.j Y' Y') (λM=>aA I<|bU M) λE=>?_;have Z':=(B'.i<|aT.b _).i ar';refine bH (show∃s':O,p'=s' from⟨bM p',(eU c'.e.1).symm⟩) λs' at'=>?_;subst at';refine ay (HT (n:=n) (m:=m) (p:=s.e) (stp:=s.g)) λB au' av'=>?_;refine bN<|dW<|HQ (yv s B G X' s') (λaO' aw'=>h9 I<|d7 ?_) ?_
   .refine P8 I O' (eN.mp c'.e.2) (λi' Q j' x X=>aP ((P.a i' Q j').e x X).1 ((P.a i' Q j').e x X).2<|av' _<|P.i i' Q j' x X) ((aq [1,1,1,1] I:ap 3 0 [.g .a<|.c 50,.g .b<|.c 4,.g .f<|.e .a<|.h .b] (.g .f<|.c 60)) ai' T.i au') T.j (λi' Q j' D'=>?_) λaa' e' ab' ac' E' F' k' l' aP' G' H' t'=>aw' _ _ _<|.mk aa' e' ac' E' F' k' l' G' H' t';rcases(P.a i' Q j').b with⟨_,_,R,d',r⟩|⟨d',_⟩
    .exact aF R d' r
    .rw[D']at d';exact aA d' as
   refineλh' I' ab' a'=>a'.casesOn λ{ab'}aa' e' ac' E' F' k' l' G' H' t'=>?_;have J':∀R∈e',∃M∈G,G[R]?=Y M/\bS G R []=M:=λR b'=>by haveI:=cl<|k' R b';exact bO _ (kN<|k' R b') this (by refine J ih<|J this ?_;rfl)
   refine⟨O,e',λR:O=>V.a R,λR=>V.g<|aD<|bS G R [],I,eW.e G' H',aH l' as,λE E=>ar,λR b' f' K' k S=>?_,λf' K'=>?_⟩
   .refine ch (J' R b') λM ad' m' g'=>?_;haveI S:k (V.g<|aD<|bS G R []) s f':=S f' aT.j;rw[g']at S;refine bO (.c<|G.map λM=>V.g<|aD M) ((T.ext<|Z'.i t').ext K').e I<|aK ⟨⟨eT _,?_,(by rw[bv];exact(aq [1,1] I:ap 1 0 [.g .a<|.c 1000] (.g .a<|.c 16777216)) T.j:(G.map λM=>V.g<|aD M).length<=16777216)⟩,?_⟩
    .refine(?_:(R:am)<(Z (G.map λM=>V.g<|aD M):O));rw[bv];exact eN.mpr<|k' R b'
    .refine(?_:k (bS (G.map λM=>V.g<|aD M) R .z) s f');exact J (show bS (G.map λM=>V.g<|aD M) R .z=V.g (aD M)from by refine J ih<|J fL<|J m' ?_;rfl) S
   .let ax':=f'.b<|.e<|e'.map λR=>V.g<|aD<|bS G R [];let L':V->U V:=λM'=>[.b 0,.b 2,.e a,.a n,.e kw,.g<|aD A,.g<|aD F,.a s',.e f'.d,M',.d,.d,.d,.d,.d,.d];refine bN ?_;refine(?_:bs _ _ _ (L' .d) s ax');refine Dd I T.i λay' aQ' N' E aR' az' aA'=>?_;refine⟨U ba,jE n,c0,λE=>yQ s ay' L',λQ ae' I' C a'=>a'.casesOn λE D=>fW<|(D.a _ az').trans aA',.mk _ aT.j,?_,λae' I' C a'=>a'.casesOn λ{C}M' D=>n' C<|(((Z'.i t').i<|K'.i<|aT.b _).i N').i D⟩
    .refineλQ w aS' ae' I' C aB' a'=>a'.casesOn λ{C}M' D=>?_;have o:=wj.mp<|J aB'<|dN _<|bu ..;refine(?_:bs _ _ _ (L'<|c0 w) s C);refine gQ<|pJ<|kg<|d7 ?_;refine tj I eW.g ar (λx X=>J o<|N x X) (r3 u) (J o T.i) λaT' u'=>⟨λaC'=>?_,λE=>⟨λq=>aC q ar,λE=>.mk _<|D.i u'⟩⟩;refine Af<|pU e' (λR=>V.g<|aD<|bS G R []) (λR=>V.h<|(bS G R []).any<|ds w) (λk S=>eB I ar S) I (eW.e (ci (b7 _) ((N'.i D).i u').d)<|(((N'.i D).i u').a _<|b7 _).trans aR) (aH l' as) (λE E=>ar) (λR b' aD' af' k S=>?_) λaD' af'=>?_
     .refine ch (J' R b') λM ad' m' g'=>?_;refine aM (T.q M ad') λaE' aF'=>?_;exact J g'<|wW I eW.g ar (λx X=>J o<|aE' x X) (uT aF') (J o T.i) λaG' aH'=>az g'<|S aG' aH'
     .refine Ah aR mW (by rw[bv];exact(aq [1,1] I:ap 1 0 [.g .a<|.c 61] (.g .a<|.c 1000)) l') (Ag.trans<|oT.mpr λaI'=>?_) ⟨λq=>aC q ar,λE=>.mk _<|(D.i u').i<|af'.i<|aT.b _⟩;obtain⟨t,ag',aJ'⟩:=E'.k P.a (eN.mp c'.e.2) (λx X q aK' D'=>by refine ay (F' x X q aK' D') λR ah' aL'=>?_;refine ch (J' R ah') λM E m' g'=>?_;haveI:=(gl.mp aI') R ah';rw[aL']at m';refine J (bE m') ?_;rw[g']at this;exact Aj.mp this) q' c';haveI r:=lD.mpr aJ';replace r:=(gl.mp aC' _<|(A' t).mp ag')▸(ty (N _<|(A' t).mp ag').1)▸(fl t).symm▸r;exact aC r ar
theorem Q8(h:L[i]?=Y (.g l))(x:Z l<=1000)(a:K (.e c.d) s (c.b<|.e l)):bh C (.ac<|.c i) L K s c:=gt h ar ⟨aH x as,a⟩
def ts(t:b3)(n:O):U ba:=(b2 n).map λi=>a0<|0<t.b (i+1)
theorem D0(T:bG n t)(M:bt n x)(h:a4 t.b x=1):ds (ts t n) x=an:=by
 haveI y:ao x-1<n:=n4 M.2<|cy<|k8<|jn.mpr M.1;haveI e:bS (ts t n) (ao x-1) ax=a0 (0<t.b (ao x)):=by unfold ts;exact J ih<|J fL<|J (o0 y)<|J (show ao x=ao x-1+1 from u5<|cy<|k8<|jn.mpr M.1) I
 unfold ds;rw[e,mL,j6];unfold a4 at h;by_cases g:0<x
 .rw[a9 g]at h;exact⟨λp=>g,λp=>J h as⟩
 .rw[bf g]at h;exact⟨λd=>aA d<|(aq [1,0,1] I:ap 0 1 [.c (.r .a) .k] (.f<|.b .i .a)) h,λd=>aA d g⟩
theorem gI.i(a:gI G n m q X s)(T:s.r=s.s)(x:s.n=[]):kZ A s.e [] s.r/\s.n=aD []:=ay a.d λw b c=>⟨⟨λp h=>aC h ar,fm,a1<|h3 w [] (bx T b) c fm λy=>⟨λh=>aC h ar,λh=>aC h ar⟩⟩,x⟩
def vp:bo:=.d (.c (.l d1 (.k<|.c 7)<|.a 0) (.d (.b (.a 8)<|.y 10 (.x (.a 1) (.m cY (.c 3)<|.a 1)<|.a 1)<|.j (.c 0) 0 23<|.b (.c 10) .d)<|.d (.c (.B (.l dj (.c 6)<|.p "sat")<|.B (.l dj (.j (.c 0) 0 41 .d)<|.g .d)<|.l fp (.a 0)<|.c 8) (.a<|.h ax) .e)<|.a<|.l fp (.E<|.y 11 (.c 8)<|.l d1 (.c 11)<|.a 0)<|.c 7) .e)<|.a<|.t (.l cB (.c 6)<|.p "unsat")<|.r 76<|.b (.c 0)<|.b (.c 1)<|.b (.c 2)<|.b (.c 3)<|.b (.c 4)<|.b (.c 5) .d
def n6(a n kw:O)(A:U am)(r y z:V):U V:=[.b 0,.b 2,.e a,.a n,.e kw,.g<|aD A,r,y,z,.d,.d,.d]
theorem A2(T:fR n G W a kw c)(p:∀y∈A,bt n y)(q:Z A<=10)(h:∀f k,aT c f->k<f.d->f.a k=Y (.e<|(W.filter λw=>A.all<|ds w).map c0)->bs (aO a2<|d+2) vp Q (n6 a n kw A g (.e k) .d) s f):bs (aO a2<|d+2) (.d (.b (.a 7)<|.C 9 (.c 4) (.r 74<|.b (.c 9)<|.b (.c 5) .d)<|.c 9) vp) Q (n6 a n kw A g .d .d) s c:=have m:=λw t=>((T.b.h w).mp t).1;bN<|dW<|vC W c0 c0 (λw=>A.all<|ds w) (λo i=>eB I ar i) I (eW.e T.f T.h) (aH T.b.k as) (λu u=>ar) (λw t j l o i=>tj I eW.g ar (λx M=>J (m w t)<|p x M) (r3 q) (J (m w t) T.i) i) (λw t j l o i=>i) λj l=>h _ j.d (l.i<|aT.b _) (b7 _) aR
theorem Ij(h:∀w∈W,b w=ax):W.filter b=[]:=List.filter_eq_nil_iff.mpr λw t e=>by rw[h w t]at e;exact aC e ar
theorem Dz(T:fR n G W a kw c)(P:el G n m s.e s.g)(q:m<=50)(t:Z s.e.l<=1000)(H:kZ A s.e F s.r)(L:s.n=aD F)(f:∀y∈A,bt n y)(o:Z A<=10)(u:∀e,(∀w∈W,A.all (ds w)=ax)->aT c e->K (.h an) s e):bs (aO a2<|d+4) (.d (.b (.a 7)<|.C 9 (.c 4) (.r 74<|.b (.c 9)<|.b (.c 5) .d)<|.c 9) vp) (eg K) (n6 a n kw A (.p "unsat") .d .d) s c:=by
 have i:∀w∈W,A.all (ds w)=ax:=λw v=>by rw[oT];intro z;haveI j:=H.f P (λy B=>(f y<|H.a y B).1) ((T.b.h w).mp v).2;rw[oT]at j;exact j<|gl.mpr λx D=>gl.mp z x<|H.a x D
 refine A2 T f o λR k l S M=>?_;rw[Ij i]at M;exact bN<|h1 (.c []) M I as (λg=>aA (bU g) as) λE=>mq<|pJ<|aP (.p _ _) (λE=>PN (T.ext l) P q t H L f o λN Q=>u N i<|l.i Q) λg=>aA I<|cg g
theorem De(T:fR n G W a kw c)(F':dy G n X M s)(e':∀y∈A,bt n y)(f':Z A<=10)(G':M<=44)(q':X<60)(H':∀o t m q,cp G A n m q X M o->ck o.b m o.a o.b.g->(∃w∈W,A.all (ds w)=an)->o.n=[]->aT c t->K (.h an) o t)(r':∀o t F,dy G n (X+1) M o->(∀w∈W,A.all (ds w)=ax)->kZ A o.e F o.r->o.n=aD F->aT c t->K (.h an) o t):aO a2 (d+12) 77 [.b 0,.b 2,.e a,.a n,.e kw,.g<|aD A] (bJ K)<|aL s c:=by
 refine cb I I I<|dM ?_;intro W' X';refine bN<|dW<|h9 I<|d7<|Q8 I (J eI<|uS f') ?_;let j':=c.b<|.e<|aD A;have N:aT c j':=aT.b _;refine P2 I (b7 _) aR F' e' ((aq [1,1] I:ap 1 0 [.g .a<|.c 10] (.g .a<|.c 20)) f') (uU G') (yZ q') (λo v m q D k' l' P Q=>?_) (λo v m q F D k' g' P Q=>Dz (T.ext<|N.i Q) D.c.c D.l.2 (ze D.l.1) g' P e' f' λz m' h'=>r' o z F (aK<|h4 A m q D k') m' g' P<|(N.i Q).i h') λo v m q R P I' Q=>?_
 .refine(?_:bs _ _ _ (n6 a n kw A (.p "sat") .d .d) o v);have s':=N.i Q;refine A2 (T.ext s') e' f' λz a' h' t' u'=>?_;let S:=ts o.b n;have v':A.all (ds S)=an:=gl.mpr λx w'=>D0 D.j (e' x w')<|l'.a x w';have x':=(T.b.h S).mpr ⟨(by refine(?_:Z ((b2 n).map _)=n);rw[bv,ec]),λE J'=>ay (D.z E J') λc j' v=>ay (l'.b c j') λy y' K'=>aF y ((v y).mp y')<|lD.mp<|D0 D.j ((D.o.d c j').1 y y') K'⟩;let H:=W.filter λw=>A.all<|ds w;have z':S∈H:=eq.mpr ⟨x',v'⟩;haveI L':(b1.c<|H.map c0).k<=bi:=by refine(?_:Z (H.map c0)<=bi);rw[bv];exact aH (aH (gY _ _) T.b.k) as
  haveI M':(0:am)<(b1.c<|H.map c0).k:=by refine(?_:(0:am)<(Z (H.map c0):O));rw[bv];exact eN.mpr<|List.length_pos_of_mem z'
  refine bN<|h1 (.c<|H.map c0) u' I L' (λC=>?_) λE=>aA M'<|cg E;let b':=(b2 n).map λB:O=>a4 o.b.b<|1+B;refine bN<|dW<|lc (b2 n) (λB:O=>V.a<|1+B) (λB:O=>V.a<|a4 o.b.b<|1+B) (λn' l=>aP ⟨by decide,(aq [1,1,1] I:ap 2 0 [.g .a<|.c 4,.c .j<|.h .g] (.e .b<|.c<|2^30)) T.i<|gj<|@ve _⟩ (aK I) l) I (mh<|@Gg _) (J ec<|(aq [1,1] I:ap 1 0 [.g .a<|.c 4] (.g .a<|.c 1000)) T.i) (λC C=>ar) (λB o' n' l=>jS I D.b ⟨@Gh _,(aq [1,1,1] I:ap 3 0 [.e .a .b,.c .s<|.e .k .g] (.g .f .b)) (ed.mp o')<|gj<|@u9 _⟩ l)<|J (show(b2 n).map (λB:O=>V.a<|a4 o.b.b<|(1:am)+B)=aD b' from by unfold aD;refine az go ?_;rfl) ?_;let A':=z.b<|.e<|aD b';refine(?_:bs _ _ _ (n6 a n kw A (.p "sat") (.e a')<|.e z.d) o A');have B':Z b'<=4:=by rw[bv,ec];exact T.i
  haveI N':(0:am)∉b':=λL=>by refine ay (bL.mp L) λB o' O'=>?_;haveI:=l'.L (B+1) (gD _)<|ed.mp o';refine this ?_;haveI:=c7.mp O';rwa[show ao ((1:am)+B)=B+1 from z2<|gj<|@u9 _]at this
  refine bN<|gQ<|qs<|aP (.p _ _) (λE=>aA I<|bU E) λC=>qs<|m2<|wV<|J P<|aP (.j (λC L=>aC L ar) λC L=>aC L ar) (λE=>aA I<|bU E) λC=>vY aR ⟨λE=>aA (bU E) N',λC=>mq<|m2<|tr<|lc b' V.a (λx=>V.h<|a0<|0<x) (λn' l=>eB I ar l) I (fW aR) (aH B' as) (λC C=>ar) (λx C n' l=>l) ?_⟩;let c':=b'.map λx=>V.h<|a0<|0<x;haveI P':V.g c'=c0 S:=by
   refine(J go<|J go<|aW V.g<|kQ λB C=>(?_:V.h (a0<|0<a4 o.b.b ((1:am)+B))=V.h (a0<|0<o.b.b (B+1))):V.g (((b2 n).map λB:O=>a4 o.b.b<|(1:am)+B).map λx=>V.h<|a0<|0<x)=V.g (((b2 n).map λB=>a0<|0<o.b.b (B+1)).map V.h));haveI N:a4 o.b.b (1+B)=o.b.b (B+1):=by unfold a4;exact J (a9 (by exact@Gi _))<|J (show ao ((1:am)+B)=B+1 from z2<|gj<|@u9 _) I
   exact az N I
  let d':=A'.b<|.e c';have C':d'.a a'=Y (.e<|H.map c0):=(aG<|bj<|er t').trans<|(aG<|bj t').trans u';refine h2 (.c c') aR I I (λQ' p'=>by refine ay (bL.mp p') λx C i'=>az i' ?_;trivial:dA c') (by rw[bv];exact aH B' as:c'.length<=bi) ?_;haveI R':(aL o d').u (.e a')=Y (H.map c0):=BB<|h6 (s:=o) C';haveI S':(aL o d').r (.e a')=au:=by refine(?_:(match d'.a a' with|Y (.b T')=>Y T'|_=>au)=_);exact J C' I
  haveI D':∀w:U ba,ge (w.map V.h):=λw Q' p'=>by exact ay (bL.mp p') λU' C i'=>az i' ⟨U',I⟩
  refine(J P' ?_:l7 fp (V.g c') (.e a') _ o d');refine bO (H.map c0) R' ⟨λY' V'=>ay (bL.mp V') λw C i'=>az i'<|.b (D' w)<|D' S,λL=>?_⟩<|J (fC<|bL.mpr<|aF S z' I)<|H' o d' m q D k' (aF S x' v') P<|(s'.i h').i<|(aT.b _).i<|aT.b _
  .rw[S']at L;exact aC L ar
 .refine(?_:bs _ _ _ (n6 a n kw A (.p "unsat") .d .d) o v);obtain⟨g',E'⟩:=R.i I' P;exact Dz (d:=d+7) (T.ext<|N.i Q) R.c R.g.1 ((aq [1,1,1,1] I:ap 3 0 [.g .a<|.e (.e .b .f)<|.c 5,.g .f<|.c 50,.g .b<|.c 100] (.g .a<|.c 1000)) R.f R.g.1 R.g.2) g' E' e' f' λz m' h'=>r' o z [] (a1<|fu m q<|R.e (cO X)<|uN q') m' g' E'<|(N.i Q).i h'
theorem dy.e(a:dy G n X M s)(d:X<=b)(h:M<=f)(g:f<=50)(p:b<=100):dy G n b f s:=aE a (λc=>gi c λA m q a w=>aK<|h4 A m q (a.e d h g p) w) λc=>f2 c λm q F=>a1<|fu m q<|F.e d p
theorem Df(T:fR n G W a kw c)(h':dy G n X M s)(C:∀k∈A,bt n k)(D:Z A<=10)(u:M<=44)(v:X<58)(E:∀i j,dy G n (X+2) M i->aT c j->K (.h an) i j):aO a2 (d+13) 78 [.b 0,.b 2,.e a,.a n,.e kw,.g<|aD A] (bJ K)<|aL s c:=by
 have c':=λw z=>((T.b.h w).mp z).1;have d':∀{i:aB}{j:aJ}{Q:br},aT c j->(∀l,aT j l->Q (.h<|W.any λw=>A.all<|ds w) i l)->bh (aO a2<|d+12) (.H<|.y 6 (.c 4)<|.r 74<|.b (.c 6)<|.b (.c 5) .d) [.b 0,.b 2,.e a,.a n,.e kw,.g<|aD A,.d] Q i j:=λ{i j Q}e' i'=>pK<|pU W c0 (λw=>V.h<|A.all<|ds w) (λj' L=>eB I ar L) I (eW.e (T.ext e').f (T.ext e').h) (aH T.b.k as) (λp p=>ar) (λw z l o j' L=>tj I eW.g ar (λk' l'=>J (c' w z)<|C k' l') (r3 D) (J (c' w z) T.i) L) λl o=>pM aR mW (by rw[bv];exact zd T.b.k) pL<|i' _<|o.i<|aT.b _;refine cb I I I<|dM ?_;intro r' s';refine bN<|gQ<|ou<|kg<|d7 ?_;refine De T h' C D u ((aq [1,1] I:ap 1 0 [.e .a<|.c 58] (.e .a<|.c 60)) v) (λi j m q N P f' B t=>?_) λi j F m' g' R B t=>?_
 .exact⟨λq=>aC q ar,λp=>bN<|gQ<|d' t λl o=>ay f' λw n' o'=>J (lF.mpr<|aF w n' o') ⟨λp=>E i l (dy.e (aK<|h4 A m q N P) (js X 2) (b4 _) (uU u)<|zf v)<|t.i o,λq=>aC q ar⟩⟩
 .refine⟨λq=>aC q ar,λp=>bN<|gQ<|d' t λl o=>J (sg g') ⟨λq=>aC q ar,λp=>mq<|kg<|d7 ?_⟩⟩;haveI S:=t.i o;exact wV<|J B<|De (T.ext S) m' (λk p'=>C k<|R.a k p') (aH (hx R.g R.a) D) u ((aq [1,1] I:ap 1 0 [.e .a<|.c 58] (.e (.h .a)<|.c 60)) v) (λx a' m q N P f' B b'=>E x a' (dy.e (aK<|h4 F m q N P) (cO _) (b4 _) (uU u)<|zf v)<|S.i b') λx a' t' q' g' u' B b'=>E x a' q'<|S.i b'
end
end
mutual
def jg:aB where
 b:=⟨λh=>0,λh=>0,λh=>-1,λh=>0,[],[],0⟩
 d:=nj 0 0
 j:=⟨λh=>-1,λh=>ax,λh=>0,0,0⟩
 c:=⟨λh=>0,λh=>-1,[],1024⟩
 e:=⟨[],-1,λh=>au,0⟩
 k:=λh=>[]
 a:=λh=>[]
 g:=λh=>0
 f:=λh=>ax
 p:=an
 s:=au
 n:=[]
 r:=au
 A:=0
theorem QU:dy [] 0 0 33 jg:=by
 haveI d:∀{α:Type}{i:O}{x:α}{P:Prop},([]:U α)[i]?=Y x->P:=λ{α i x P}h=>aC h ar;haveI z:∀{v:O}{P:Prop},jg.b.b v≠0->P:=λh=>aA I h;haveI e:∀{c:O}{P:Prop},c<0->P:=λh=>aA h<|my _;haveI Q:dp [] 0 0 jg.b jg.a jg.g jg.e:=⟨⟨dQ 0 I (b4 _) (λa h=>aC h ar) λi x h=>d h,λa a a=>I⟩,λc b=>e b,⟨λo l h=>?_,λk q h=>d h,λk q h=>d h⟩⟩;haveI B:g9 0 0 jg.c jg.f:=⟨by decide,?_,λv a=>?_⟩;refine aK<|h4 [] 0 0 ⟨⟨I,by decide,by decide⟩,⟨λi x h=>d h,λv a h=>z h,λa h=>aC h ar,tH,λv a h=>z h,λv a h=>z h,by decide,by decide⟩,⟨λv a h=>z h,λc b=>e b,λk x h=>d h,λv a h=>z h,λk y h=>d h,λk x h=>d h⟩,λc b=>e b,⟨λa=>fm,λp m=>⟨λh=>aC h ar,λX=>ch X λc a h a=>e h⟩⟩,Q,⟨λi x h=>d h,λv a h=>aA h (by decide:¬(0:Int)<=-1)⟩,B,b4 _,λa a=>I,λu A f=>aA (aH A f) as,b4 _,I,λa h=>aC h ar,?_,by decide,by decide,by decide⟩ λc b=>e b
 .show 0+gh 0 _<=33;rw[EQ];exact NC ..
 .exact as
 .exact(as:(0:am)<=1000000*((0:O)+if ax=an then 1 else 0))
 .exact kK h λa p h a=>d h
end
section
variable{n:O}{G:U (U am)}{W:U (U ba)}
mutual
theorem D1:∀{n:O},Z (jE n)<=2^n|0=>b4 _|n+1=>by refine(?_:Z (hm<|jE n)<=_);rw[sR,S1,SZ];exact S0 2 D1
theorem gL.c(a:n<=4):gL n []<|jE n:=⟨λw=>wj.trans ⟨λh=>⟨h,λp h=>aC h ar⟩,λh=>h.1⟩,BM a,D1⟩
theorem Bi(x:∀y∈g,bt (Z w) y):fE (jj<|w++[b]) g↔fE (jj w) g:=by
 haveI D:∀y∈g,hT (jj<|w++[b]) y↔hT (jj w) y:=λy d=>by
  haveI e:jj (w++[b]) (ao y)=jj w (ao y):=by unfold jj;exact J ih<|J ih<|J (lG (by exact n4 (x y d).2<|cy<|k8<|jn.mpr (x y d).1)) I
  unfold hT;rw[e]
 exact⟨λX=>ay X λy a c=>aF y a<|(D y a).mp c,λX=>ay X λy a c=>aF y a<|(D y a).mpr c⟩
theorem gL.e(S:gL n G W)(d:n+1<=4)(x:∀g∈G,∀y∈g,bt n y):gL (n+1) G<|hm W:=by
 haveI E:Z (hm W)<=2^(n+1):=by rw[sR,S1,SZ];exact S0 2 S.a
 refine⟨λw=>?_,aH E<|Nat.pow_le_pow_right as d,E⟩;rw[Cb];constructor
 .exactλc=>Ed c λv P b D=>J D<|aM ((S.h v).mp P) λA i=>⟨by refine J bI<|J A ?_;rfl,λg a=>(Bi<|J A<|x g a).mpr<|i g a⟩
 .refineλc=>aM c λA i=>?_;have f:w≠[]:=λh=>by replace A:=h▸A;exact aC A ar
  have k:Z w.dropLast=n:=by refine J xC<|J A ?_;rfl
  exact sH (iM w) ((S.h _).mpr ⟨k,λg a=>(Bi<|k.symm▸x g a).mp<|J (EA f)<|i g a⟩) (w.getLast f) (EA f).symm
theorem gL.b(S:gL n G W){g l:U am}(h:∀x,x∈g↔x∈l):gL n (G++[g])<|W.filter λw=>l.any<|ds w:=by refine⟨λw=>?_,aH (gY _ _) S.k,aH (gY _ _) S.a⟩;rw[eq,S.h,Aj,<-(⟨λ⟨y,a,d⟩=>aF y ((h y).mp a) d,λ⟨y,a,d⟩=>aF y ((h y).mpr a) d⟩:fE (jj w) g↔fE (jj w) l)];refine⟨λX=>aM X λs c=>aM s λa d=>⟨a,λk C=>aE (cK.mp C) (d k) λq=>J (b9.mp q) c⟩,λX=>aM X λa d=>⟨⟨a,λk C=>d k<|ii _ C⟩,d g<|dN _<|gA _⟩⟩
theorem gL.d(S:gL n G W){l:U am}(P:∀y∈l,y≠0)(h:∃x∈l,-x∈l):gL n G<|W.filter λw=>l.any<|ds w:=by
 refine⟨λw=>?_,aH (gY _ _) S.k,aH (gY _ _) S.a⟩;rw[eq,S.h];refine⟨λa=>a.1,λa=>⟨a,ay h λx b X=>?_⟩⟩;rw[lF];refine bb ?_;intro p;cases e:ds w x
 .exact aF (-x) X<|J (ty<|P x b)<|J e I
 .exact aF x b e
end
end
mutual
def we:bo:=.d (.c (.l dj (.j (.c 2) 0 39 .d)<|.m cY (.c 3)<|.a 1) (.a<|.h ax) .e)<|.d (.b (.a 3)<|.m cY (.c 3)<|.a 1)<|.b (.a 6)<|.N 13 (.c 6) 14 (.g<|.b (.h ax)<|.b (.h an) .d)<|.m cY (.c 13)<|.g<|.b (.c 14) .d
def qg(f:a5):bo:=.c (.A<|.r 78<|.b (.c 2)<|.b (.c 1)<|.b (.c 5)<|.b (.c 3)<|.b (.c 6)<|.b f .d) (.a<|.h ax) .e
def sY:a5:=.E<|.r 70<|.b (.m g4 (.c 9)<|.a 4)<|.b (.m hL (.c 9)<|.a 4)<|.b (.c 3) .d
def B2:bo:=.c (.t (.A<|.j (.c 2) 0 40<|.b (.c 10)<|.b (.c 11) .d)<|.l d1 (.k<|.c 6)<|.a 0) (.a<|.h ax) .e
def wd:bo:=.d (.b (.a 6)<|.C 15 (.c 6) (.r 73<|.b (.c 15)<|.b (.c 10) .d)<|.c 15) B2
def wf:bo:=.d (.b (.b (.a 11)<|.b (.a 12) .d)<|.g<|.b .z<|.b (.r 71<|.b (.c 10) .d) .d)<|.d (.c (.X<|.c 12) (.d (.b (.a 11)<|.j (.c 1) 2 66<|.b (.p "input")<|.b (.c 12)<|.b (.g .d)<|.b (.k<|.c 5) .d)<|.f<|.o (.c 5)<|.c 12) .e) wd
def sX:bo:=.d (.b (.a 10)<|.r 70<|.b (.m g4 (.c 9)<|.a 3)<|.b (.D (.l cB (.m hL (.c 9)<|.a 53)<|.a 52) (.a 0)<|.m cY (.a 1)<|.m hL (.c 9)<|.a 3)<|.b (.c 3) .d) wf
def B3:bo:=.d (.b (.b (.a 8)<|.b (.a 9) .d)<|.g<|.b (.m hL (.n<|.c 7)<|.a 8)<|.b (.m g4 (.n<|.c 7)<|.a 8) .d)<|.c (.t (.l cB (.c 8)<|.a 7)<|.l g0 (.c 3)<|.a 4) we<|.c (.l ij (.c 8)<|.a 5) (qg sY) sX
def B4:bo:=.d (qg<|.g<|.b (.a 1)<|.b (.v<|.a 2) .d)<|.a<|.r 78<|.b (.c 2)<|.b (.c 1)<|.b (.c 5)<|.b (.c 3)<|.b (.c 6)<|.b (.g .d) .d
def fX(b n a kw:O)(e f g j k h i:V):U V:=[.k b,.b 2,.b 0,.a n,e,.e a,.e kw,f,g,j,k,h,i,.d,.d,.d]
end
section
variable{d n m q X M b a kw:O}{s:aB}{c:aJ}{K:br}{G:U (U am)}{A:U am}{W:U (U ba)}{Q:eX}{e f g j k h i:V}
mutual
theorem Lb(T:fR n G W a kw c)(u:dy G n X M s)(r:n+1<=4)(v:∀o l p,fR (n+1) G (hm W) a p l->a≠p->dy G (n+1) X M o->aT c l->Q .b (fX b (n+1) a p e f g j k h i) o l):bs (aO a2<|d+13) we Q (fX b n a kw e f g j k h i) s c:=by refine bN<|gQ<|m2<|h9 I<|Do u r λo l A t z=>⟨λq=>aA I<|bU q,λz=>bN (?_:bs _ _ _ (fX b (n+1) a kw e f g j k h i) o l)⟩;have m:=T.ext t;exact dW<|AK I (by decide:13+1<16) m.h m.b.k (λw B=>J ((m.b.h w).mp B).1 m.i)<|v o _ l.d ⟨er m.d,(aG<|bj m.d).trans m.e,b7 _,aR,λq x=>⟨λy C=>((m.q q x).1 y C).e,(m.q q x).2⟩,m.j,m.b.e r λq x=>(m.q q x).1,r⟩ (bj m.d) A<|t.i<|aT.b _
theorem B5(T:fR n G W a kw c)(m:dy G n X M s)(D:1<=n)(r:M<=44)(t:X<58)(u:∀P,(∀A l,(∀y∈A,bt n y)->Z A<=10->aT c l->P (.g<|aD A) s l)->bh (aO a2<|d+13) o (fX b n a kw e f g j k h i) P s c)(v:∀p l,dy G n (X+2) M p->aT c l->Q .b (fX b n a kw e f g j k h i) p l):bs (aO a2<|d+13) (qg o) Q (fX b n a kw e f g j k h i) s c:=gQ<|ou<|kg<|d7<|u _ λA l w x o=>Df (T.ext o) m w x r t λp z B C=>⟨λq=>aC q ar,λE=>v p z B<|o.i C⟩
theorem K8(m:1<=n)(p:n<=4){j:O}(q:∀A l,(∀y∈A,bt n y)->Z A<=10->aT c l->P (.g<|aD A) s l):bh (aO a2<|d+13) sY (fX b n a kw e f g (.a j) k h i) P s c:=tr<|kg<|d7 ⟨⟨by decide,by decide⟩,d7 ⟨by decide,Dh (k:=j%4) I I I ((aq [1,1] I:ap 1 0 [.e .a<|.c 4] (.g .a<|.c 10))<|nG _ as) m p λF l t L r u v v z=>h2 (.o F) z I I (gw F) (J r<|aH (by exact(aq [1,1] I:ap 1 0 [.e .a<|.c 4] (.g .a<|.c 4))<|nG _ as:j%4<=4) as:Z F<=bi)<|q F l L ((aq [1,1,0,1] I:ap 2 0 [.a .a .b,.e .b<|.c 4] (.g .a<|.c 10)) r<|nG _ as) u⟩⟩
theorem La(T:fR n G W a kw c)(D:t<c.d)(z:c.a t=Y (.e<|aD F))(L:∀y∈F,bt n y)(v:Z F<=4)(A:∀l o,aT c l->o<l.d->c.d<=o->l.a o=Y (.e<|(W.filter λw=>F.any<|ds w).map c0)->bs (aO a2<|d+13) B2 Q (fX b n a o e f g j (.e t) h i) s l):bs (aO a2<|d+13) wd Q (fX b n a kw e f g j (.e t) h i) s c:=have r:=λw m=>((T.b.h w).mp m).1;bN<|dW<|vC W c0 c0 (λw=>F.any<|ds w) (λu p=>eB I ar p) I (eW.e T.f T.h) (aH T.b.k as) (λB B=>ar) (λw m q k u p=>wW I (eW.e (ci D k.d)<|(k.a t D).trans z) ar (λx M=>J (r w m)<|L x M) (uT v) (J (r w m) T.i) p) (λw m q k u p=>p) λq k=>A _ q.d (k.i<|aT.b _) (b7 _) k.d aR
end
end
section
variable{d n m q X M b a kw:O}{s:aB}{c:aJ}{K:br}{G:U (U am)}{A:U am}{W:U (U ba)}{Q:eX}{e f g h k i j:V}
mutual
theorem gI.z(F:gI G n m q X s)(S:gL n G W):W=[]:=EC.mpr λw t=>ay F.d λo p a=>ay (F.c.k ((S.h w).mp t).2 o [] a) λy b p=>aC b ar
set_option tactic.hygienic true in theorem wg{f:aJ}{P:Prop}{j:U V}{m:O}{L:U V}(B:L[6]?=Y (.e m))(z:f.a m=Y (.e j))(o:Z j<=100){i:ba}(n:i=ax->j=[])(M:Q .b L s f):h5 (bh (aO a2 d) (.l d1 (.k<|.c 6)<|.a 0) L<|h5 (bs (aO a2 d) (.a<|.h ax) Q L)<|bs (aO a2 d) .e Q L) (λs c=>(h5 (bs (aO a2 d) (.a<|.h ax) Q L)<|bs (aO a2 d) .e Q L) (.h ax) s c) (.h<|!i) s f:=by refine⟨λg=>?_,λp=>⟨λq=>aC q ar,λp=>M⟩⟩;haveI w:=n (by induction i with|false=>rfl|true=>exact aC g ar);refine bb ?_;intro r;subst w;refine m2 ?_;refine(?_:bh (aO a2 d) (.c 6) L (λv=>xc pg v _) s f);exact eB B ar<|h1 (.c []) z I as (λg=>aA (bU g) as) λp=>M
theorem dy.l(a:dy G n X M s):Z s.e.l<=1000:=aE a (λb=>gi b λA m q a p=>ze a.l.1) λb=>f2 b λm q F=>aH F.f<|aH (lJ (kS F.g.2 F.g.1) 5) as
theorem gL.l(S:gL n G W):Z (W.map c0)<=100:=by rw[bv];exact aH S.k as
theorem Lc(T:fR n G W a kw c)(M':a≠kw)(t':dy G n X M s)(D':M<44)(E':X<58)(u':Z G<=50)(k:t<c.d)(N':t≠a)(k':c.a t=Y (.e<|aD F))(o:∀y∈F,bt n y)(f':Z F<=4)(a':∀r u z B v i j,fR n z B a v u->a≠v->dy z n (X+1) (M+1) r->Z z<=Z G+1->c.d<=u.d->(∀l,l<c.d->l≠a->u.a l=c.a l)->Q .b (fX b n a v e f g h (.e t) i j) r u):bs (aO a2<|d+13) wf Q (fX b n a kw e f g h (.e t) i j) s c:=by
 refine bN<|dW<|oN<|d7<|d7<|kg ?_;refine Dw I k k' (λl' m'=>⟨(o l' m').1,aH (o l' m').2 T.i⟩) (zg f') (λF' G' D=>?_) λC F' T' v' w' D=>?_
 .refine bV I I I<|bN ⟨λq=>aC q ar,λb'=>have x':=T.ext D;La x' (ci k D.d) ((D.a t k).trans k') o f' λy' v c' g' O' n'=>have H:=(x'.ext c').b.d (λy x=>(o y x).1) G';have K:=D.i c';gQ<|pJ<|ou<|h9 I<|Py I I (ci (ci k D.d) c'.d) ((K.a t k).trans k') f' t' (λy x=>(o y x).1) G' λr d' L o'=>haveI p':=K.i o';wg (P:=im) I ((o'.a _ g').trans n') H.l (λz'=>?_)<|a' r d' G _ v _ _ ⟨ci T.d p'.d,(p'.a _ T.d).trans T.e,ci g' o'.d,(o'.a _ g').trans n',T.q,T.j,H,T.i⟩ (bj<|ci x'.d O') (dy.e L (cO _) (cO _) ((aq [1,1] I:ap 1 0 [.e .a<|.c 44] (.g (.h .a)<|.c 50)) D')<|(aq [1,1] I:ap 1 0 [.e .a<|.c 58] (.g (.h .a)<|.c 100)) E') (cO _) p'.d λl e' b'=>p'.a l e'⟩
  .refine aE L (λA'=>gi A' λA m q L b'=>?_) λA'=>f2 A' λm q q'=>J (q'.z H) I
   .replace z':=L.p▸z';exact aC z' ar
 .refine bV I I I<|haveI H':∀y∈C,bt n y:=λy x=>o y<|(w' y).mp x;bN ⟨λb'=>bN<|dW<|h9 I<|d7<|dQ (.c _) (T.ext D).e I (aH (by rw[bv];exact u':(G.map λC=>V.g<|aD C).length<=50) as) (?_:aO a2 (d+13) 66 [.b 2,.p "input",.g<|aD C,.g<|aD [],.a (Z (G.map λC=>V.g<|aD C):O)] (bJ _) (aL s F')),λq=>aC q ar⟩;rw[bv];refine Dc (bu ..) v' t'.l (λU' a'=>aC a' ar) ar λr' y' c' V'=>let P':=s.x (kq G C) r';have S:=(T.ext D).ext c';vM<|let d':=y'.i a<|.e<|(G.map λC=>V.g<|aD C)++[.g<|aD C];kp (bO (.c _) S.e I bk) _ S.e (cX (by rw[bv];exact u') as) bk ?_;have K:=D.i c';have B':∀l,l≠a->d'.a l=y'.a l:=λl e'=>aG e';have s':t<d'.d:=ci k K.d;have I':=(B' t N').trans<|(K.a t k).trans k';haveI Q':∀B v u,gL n (G++[C]) B->aT d' u->v<u.d->u.a v=Y (.e<|B.map c0)->fR n (G++[C]) B a v u:=λB v u R' r' g' n'=>by
   refine⟨ci S.d r'.d,(r'.a a S.d).trans<|J dY aR,g',n',λy x=>?_,J bI<|aH (lJ u' 1) as,R',T.i⟩
   .rcases cK.mp x with q|q
    .exact T.q y q
    .exact J (b9.mp q) ⟨H',v'.k⟩
  have H:=T.b.b w';exact(have J':=λw h'=>((T.b.h w).mp h').1;bN<|dW<|vC W c0 c0 (λw=>F.any<|ds w) (λK' i'=>eB I ar i') I (eW.e S.f<|(B' kw M'.symm).trans S.h) (aH T.b.k as) (λb' b'=>ar) (λw h' j' N K' i'=>wW I (eW.e (ci s' N.d)<|(N.a t s').trans I') ar (λl' m'=>J (J' w h')<|o l' m') (uT f') (J (J' w h') T.i) i') (λw h' j' N K' i'=>i') λj' N=>gQ<|pJ<|ou<|h9 I<|have L':∀r R,dy (G++[C]) n (X+1) (M+1) r->aT (j'.b<|.e<|(W.filter λw=>F.any<|ds w).map c0) R->Q .b (fX b n a j'.d e f g h (.e t) (.a (Z s.e.l:O))<|.g<|aD C) r R:=λr R L E=>have C':=(N.i<|aT.b _).i E;a' r R (G++[C]) _ j'.d _ _ (Q' _ _ _ H C' (ci (b7 _) E.d)<|(E.a _<|b7 _).trans aR) (bj<|ci S.d N.d) L (J bI<|b4 _) (aH K.d C'.d) λl e' S'=>(C'.a l<|ci e' K.d).trans<|(B' l S').trans<|K.a l e';Px I I (ci s' (N.i<|aT.b _).d) (((N.i<|aT.b _).a t s').trans I') f' t' v' H' w' ((aq [1,1] I:ap 1 0 [.e .a<|.c 44] (.e .a<|.c 50)) D') ((aq [1,1] I:ap 1 0 [.e .a<|.c 58] (.e .a<|.c 100)) E') (λr R L W' E=>wg (P:=im) I ((E.a _<|b7 _).trans aR) H.l (λa'=>aC a' ar)<|L' r R L E) λr R m q q' E=>wg (P:=im) I ((E.a _<|b7 _).trans aR) H.l (λb'=>J (q'.z H) I)<|L' r R (a1<|fu m q q') E:bs (aO a2<|d+13) wd Q (fX b n a kw e f g h (.e t) (.a (Z s.e.l:O))<|.g<|aD C) P' d')
end
end
mutual
open Classical
inductive rS(a o:O)(X:U V)(p:O):U V->aB->aJ->Prop|mk{n b kw:O}{G:U (U am)}{W:U (U ba)}{s:aB}{c:aJ}(e j i k f g h:V)(T:fR n G W b kw c)(d:b≠kw)(l:dy G n (2*p) (33+p) s)(w:2<=n)(m:Z G<=p)(H:o<c.d)(M:c.a o=Y (.e X))(K:o≠b):rS a o X p (fX a n b kw e j i k f g h) s c
end
section
variable{d n m q X M a b kw:O}{s:aB}{c:aJ}{K:br}{G:U (U am)}{A:U am}{W:U (U ba)}{Q:eX}{e j i k f g h:V}
mutual
theorem K7(T:fR n G W b kw c)(z:b≠kw)(A:dy G n X M s)(D:M<44)(E:X<58)(H:Z G<=50)(K:1<=n){m:O}(N:∀u o p B r f g h,fR n p B b r o->b≠r->dy p n (X+1) (M+1) u->Z p<=Z G+1->c.d<=o.d->(∀l,l<c.d->l≠b->o.a l=c.a l)->Q .b (fX a n b r e j i (.a m) f g h) u o):bs (aO a2<|d+13) sX Q (fX a n b kw e j i (.a m) f g h) s c:=haveI w:∀(l:O)(x:V),x=.a l->l<=4->aO a2 (d+13) 70 [.a<|(m:am)/3,x,.a n] (bJ λv s c=>lA 10 v (fX a n b kw e j i (.a m) f g h) λL=>bs (aO a2<|d+13) wf Q L s c) (aL s c):=λl x P y=>Dh I P I (zg y) K T.i λk' o l' R S q t F a'=>Lc (T.ext q) z A D E H F (gB<|ci T.d t) a' R ((aq [1,1,1] I:ap 2 0 [.g .a<|.c 4,.a .b .a] (.g .b<|.c 4)) y S) λu b' p B r m' n' c' d' e' f' g' h'=>N u b' p B r _ _ _ c' d' e' f' (aH q.d g') λl C i'=>(h' l (ci C q.d) i').trans<|q.a l C;bN<|dW<|kg<|d7 ⟨⟨as,as⟩,d7<|aP as (λj'=>w 0 _ I as) λj'=>⟨as,w (1+m%3) _ I<|(aq [1,1] I:ap 1 0 [.e .a<|.c 3] (.g (.e .k .a)<|.c 4))<|nG _ as⟩⟩
theorem K6(j:p<11)(T:fR n G W b kw c)(E:b≠kw)(B:dy G n (2*p) (33+p) s)(m:2<=n)(A:Z G<=p)(H:u<c.d)(M:c.a u=Y (.e w))(K:u≠b)(C:∀v o r,rS a u w (p+1) v o r->Q .b v o r):bs (aO a2<|d+13) B3 Q (fX a n b kw e (.a x) i k f g h) s c:=by refine bN<|dW<|oN<|d7 ⟨by decide,d7<|fg ⟨by decide,by decide⟩ I I I (?_:bs (aO a2<|d+13) (.c (.t (.l cB (.c 8)<|.a 7)<|.l g0 (.c 3)<|.a 4) we<|.c (.l ij (.c 8)<|.a 5) (qg sY) sX) Q (fX a n b kw e (.a x) (.a (ao x%8:O)) (.a (ao x/8:O)) f g h) s c)⟩;haveI F:bs (aO a2<|d+13) (.c (.l ij (.c 8)<|.a 5) (qg sY) sX) Q (fX a n b kw e (.a x) (.a (ao x%8:O)) (.a (ao x/8:O)) f g h) s c:=⟨λz=>B5 T B (pD m) ((aq [1,1] I:ap 1 0 [.e .a<|.c 11] (.g (.e (.c 33) .a)<|.c 44)) j) (zh j) (λf' L=>K8 (by exact pD m) T.i L) λo r D y=>C _ _ _<|.mk _ _ _ _ _ _ _ (T.ext y) E (dy.e D (@Gj _) (@zi _) (uV j)<|uW j) m (zj A) (ci H y.d) ((y.a _ H).trans M) K,λz=>K7 T E B ((aq [1,1] I:ap 1 0 [.e .a<|.c 11] (.e (.e (.c 33) .a)<|.c 44)) j) (zh j) ((aq [1,1,1] I:ap 2 0 [.e .a<|.c 11,.g .b .a] (.g .b<|.c 50)) j A) (pD m) λo r g' h' N i' j' k' R S X P a' b'=>C _ _ _<|.mk _ _ _ _ _ _ _ R S (dy.e X (@Gk _) (@Gl _) (uV j)<|uW j) m (y9 A P) (ci H a') ((b' _ H K).trans M) K⟩;exact gQ<|pJ ⟨λz=>⟨λc'=>Lb T B ((aq [1,1] I:ap 1 0 [.b .g<|.c 4] (.g (.h .a)<|.c 4)) (bU c':(n:am)<4)) λo r N d' e' D y=>C _ _ _<|.mk _ _ _ _ _ _ _ d' e' (dy.e D (@Gm _) (@zi _) (uV j)<|uW j) ((aq [1,1] I:ap 1 0 [.g (.c 2) .a] (.g (.c 2)<|.h .a)) m) (zj A) (ci H y.d) ((y.a _ H).trans M) K,λz=>F⟩,λz=>⟨λq=>aC q ar,λz=>F⟩⟩
theorem K9(z:rS a o l p L s c)(b:p<=11)(f:∀s c,K (.h an) s c):bs (aO a2<|d+13) B4 (eg K) L s c:=by
 refine bb ?_;intro u;obtain⟨_,_,_,_,_,_,_,T,v,k,w,G,_,_,_⟩:=z;exact bN<|B5 T k (pD w) (zk b) ((aq [1,2] I:ap 1 0 [.g .a<|.c 11] (.e (.m 2 .a)<|.c 58)) b) (λP n=>oN<|n [1,-2] c (λy i=>by
  rcases cu.mp i with rfl|i
  .exact⟨by decide,pD w⟩
  .exact J (b9.mp i) ⟨by decide,w⟩) as aT.j) λX B q r=>mq<|kg<|d7<|Df (A:=[]) (T.ext r) q (λj f=>aC f ar) as (zk b) ((aq [1,2] I:ap 1 0 [.g .a<|.c 11] (.e (.e (.m 2 .a)<|.c 2)<|.c 58)) b) λt x j j=>f t x
theorem Pr(B:L[0]?=Y (.k a))(b:c.m a=Y R)(x:Z R<=1000)(h:K (.e c.d) s (c.b<|.e<|((aD R).take 12).drop 1)):bh C (.Q (.c 0) (.a 1)<|.a 12) L K s c:=haveI d:(aL s c).i (.k a)=Y (aD R):=(J b I:(c.m a).map _=_);cf (by unfold c5;exact J B I)<|cf d<|fg as as as (J eI<|aH x as)<|dr s _ I h
def oo(a:O)(r e:V):U V:=[.k a,.b 2,.b 0,r,e,.d,.d,.d,.d,.d,.d,.d,.d,.d,.d,.d]
def K5:bo:=.d (.g (.a 4) (.x (.a 0) (.c 3)<|.a 1)<|.f<|.j (.c 2) 0 39 .d)<|.d (.b (.b (.a 5)<|.b (.a 6) .d)<|.g<|.b (.e .d)<|.b (.r 75<|.b (.c 3) .d) .d)<|.d (.g (.a 7) (.Q (.c 0) (.a 1)<|.a 12) B3) B4
inductive uu(a n:O)(c:aJ)(p:U O):U V->aB->aJ->Prop|mk(z:V)(X:aB)(b:aJ)(d:dy [] (Z p) 0 33 X)(e:aT c b)(f:b.m=c.m):uu a n c p (oo a (.a n) z) X b
theorem Ld{R:U am}{n:O}(q:2<=n)(k:n<=4)(M:Z R<=63)(N:c.m a=Y R)(t:dy [] 0 0 33 s)(u:∀s c,K (.h an) s c):bs (aO a2<|d+13) K5 (eg K) (oo a (.a n) .d) s c:=by
 revert d a s c K R n;refine@hs _<|e0 @(letI d:=_;letI a:=_;letI s:=_;letI c:=_;letI K:=_;letI R:=_;letI n:=_;(e3 ?_:eE _ _ _ d a s c K R n));intros;refine bN<|aP ⟨as,r9 k<|gj<|@k9 _⟩ (aK I)<|.mk _ (b2 n) (λi:O=>V.a<|0+i) (uu a n c) (λp L X j P=>mh<|@sc _) (.mk _ s c t aT.j I) ?_ ?_
 .refineλp x r L X j v G=>G.casesOn λz X j A E y=>?_;haveI B:Z p+1<=n:=by haveI:=aW Z v;rw[ec,bI,kP]at this;exact(aq [1,0,1] I:ap 3 0 [.a .a<|.e .b<|.h .f] (.g (.h .b) .a)) this
  exact vM<|h9 I<|Do A ((aq [1,1,1] I:ap 2 0 [.g .a<|.c 4,.g (.h .b) .a] (.g (.h .b)<|.c 4)) k B) λw o Q m C=>uu.mk _ w o (J bI Q) (E.i m)<|bx C y
 .refineλL X j G=>G.casesOn λz X j A E y=>?_;rw[ec]at A;refine bN<|dW<|oN<|d7<|let i':=j.b<|.e [];Dd I k λo kw m C S W a'=>bV I I I<|haveI T:fR n [] (jE n) j.d kw o:=⟨ci (b7 _) m.d,(m.a _<|b7 _).trans aR,W,a',λP u=>aC u ar,as,gL.c k,k⟩;haveI b':=J C<|J y N;bN<|Pr I b' ((aq [1,1] I:ap 1 0 [.g .a<|.c 63] (.g .a<|.c 1000)) M)<|let l:=(R.take 12).drop 1;(J xj SB.symm:((aD R).take 12).drop 1=aD l).symm▸?_;have F:Z l<=11:=J Sv<|J lI<|Nat.sub_le_sub_right (SX _ _) 1;refine⟨am,l,V.a,λp=>rS a o.d (aD l) (Z p),?_,.mk _ _ _ _ _ _ _ (T.ext<|aT.b<|.e<|aD l) (bj S) A q (b4 _) (b7 _) aR<|gB<|ci (b7 _) m.d,?_,λL w H D=>K9 D F u⟩
  .rintro p L w H⟨_,_,_,_,_,_,_,_,_,_,_,_,_,c',_⟩;exact fW c'
  .rintro p x r L w H v⟨_,_,_,_,_,_,_,T,d',t,q,e',f',g',h'⟩;haveI B:Z p+1<=11:=by haveI:=aW Z v;rw[bI,kP]at this;exact(aq [1,1,0,1] I:ap 3 0 [.g .a<|.c 11,.a .a<|.e .b<|.h .f] (.g (.h .b)<|.c 11)) F this
   exact K6 B T d' t q e' f' g' h' λj' X j D=>J bI D
end
end
mutual
def kE(t:U (U cd)):O->O->cd:=λo a=>(((t[o]?).getD [])[a]?).getD .n
def cP(t:U (U cd))(o a:O)(x:cd):U<|U cd:=t.set o<|((t[o]?).getD []).set a x
def ll(t:U (U cd))(o a:O):ba:=e6 o (Z t)&&e6 a (Z ((t[o]?).getD []))
theorem qF(h:ll f c d=an):dh (kE f) c d x=kE (cP f c d x):=by
 refine aM (eS.mp h) λA i=>?_;funext y b;unfold dh kE cP;by_cases e:y=c
 .refine J e<|J (jp<|l5 A) ?_;by_cases k:b=d
  .exact J k<|J (a9 ⟨I,I⟩)<|J (jp<|l5 i) I
  .exact J (bf λq=>k q.2)<|J (jo<|f8 k) I
 .exact J (bf λq=>e q.1)<|J (jo<|f8 e) I
def cV(r:O->a3 (U am))(t:U (U cd))(b:O->ba)(g:cN->O)(T:O->a3 b8)(n:O):av:=⟨kE t,b,g,T,n,r⟩
end
section
variable{r:O->a3 (U am)}{C:ei}{Q:dk->U V->av->Prop}{L:U V}{o a n:O}{e:a5}{t:U (U cd)}{b:O->ba}{g:cN->O}{T:O->a3 b8}{v:V}{l:U V}
mutual
def QV:V->ba|.z|.h _|.a _|.p _|.g _|.b _=>an|_=>ax
theorem hj(v:V)(q:c5 L 0=Y (.b o))(M:b o=an)(d:QV v=an)(h:∀P,P v (cV r t b g T n)->bA C e L P (cV r t b g T n))(i:ll t o a=an)(k:Q .b L (cV r (cP t o a<|.e v) b (dz g o a) T n)):dH C (.b (.f (.c 0) o a) e) Q L<|cV r t b g T n:=by
 revert v;revert r C Q L o a n e t b g T;refine@hs _<|eZ @(letI r:=_;letI C:=_;letI Q:=_;letI L:=_;letI o:=_;letI a:=_;letI n:=_;letI e:=_;letI t:=_;letI b:=_;letI g:=_;letI T:=_;(e2 ?_:eD _ _ _ r C Q L o a n e t b g T));intros;refine h _<|cf q ⟨I,?_⟩;have x:(cV r t b g T n).l o a v=Y (v,cV r (cP t o a<|.e v) b (dz g o a) T n):=by unfold av.l cV;refine J (a9 M)<|az (qF i) ?_;induction v using V.casesOn<;>first|rfl|exact aC d ar
 refine cf x ?_;haveI j:jc (hv e) v v L=L:=by unfold jc;cases hv e<;>induction v using V.casesOn<;>first|rfl|exact aC d ar
 exact J j k
theorem gN(q:c5 L 0=Y (.b o))(M:b o=an)(A:hv e=au)(i:∀P,P (.e n) (cV r t b g (aw T n<|Y<|.e l)<|n+1)->bA C e L P (cV r t b g T n))(x:mm o a=ax)(m:dA l)(p:ll t o a=an)(w:0<n)(k:∀u d h,d 0=T 0->0<h->Q .b L (cV r (cP t o a<|.c l) b u d h)):dH C (.b (.f (.c 0) o a) e) Q L<|cV r t b g T n:=by
 refine i _<|cf q ⟨I,?_⟩;haveI s:(cV r t b g (aw T n<|Y<|.e l)<|n+1).l o a (.e n)=Y (.j (.b o a)<|g (.b o a)+1,cV r (cP t o a<|.c l) b (dz g o a) (aw (aw T n<|Y<|.e l) n au) (n+1)):=by unfold av.l cV;refine J (a9 M)<|az (qF p) ?_;simp only[aR,x];exact a9 m
 exact cf s<|J A<|k _ _ _ ((aG<|bj w).trans<|aG<|bj w)<|gD _
theorem GX(q:c5 L 0=Y (.b o))(M:b o=an)(x:mm o a=an)(p:ll t o a=an)(w:0<n)(k:∀u i m,i 0=T 0->0<m->Q .b L (cV r (cP t o a<|.a []) b u i m)):dH C (.b (.f (.c 0) o a)<|.e .d) Q L<|cV r t b g T n:=by
 revert C Q L;revert r o a n t b g T;refine@fk _<|e0 @(letI r:=_;letI o:=_;letI a:=_;letI n:=_;letI t:=_;letI b:=_;letI g:=_;letI T:=_;(e3 ?_:eE _ _ r o a n t b g T));intros;refine⟨as,cf q ⟨I,?_⟩⟩;haveI s:(cV r t b g (aw T n<|Y<|.e [])<|n+1).l o a (.e n)=Y (.j (.b o a)<|g (.b o a)+1,cV r (cP t o a<|.a []) b (dz g o a) (i8 (aw T n<|Y<|.e []) [n]) (n+1)):=by unfold av.l cV;refine J (a9 M)<|az (qF p) ?_;simp only[aR,x,jU,Bs,Bt,V.t,S4,a9 (dO.mpr ⟨fO,fm⟩)];rfl
 refine cf s<|k _ _ _ ?_<|gD _;unfold i8;exact J (bf λh=>aA (b9.mp h)<|bj w)<|aG<|bj w
theorem GY(q:c5 L 0=Y (.b o))(M:b o=an)(x:mm o a=an)(s:ll t o a=an)(w:0<n)(k:∀u m p,m 0=T 0->0<p->Q .b L (cV r (cP t o a<|.a [[],[]]) b u m p)):dH C (.b (.f (.c 0) o a)<|.e<|.b (.e .d)<|.b (.e .d) .d) Q L<|cV r t b g T n:=by
 refine bV as as (as:2<=bi)<|cf q ⟨I,?_⟩;let v:=aw (aw (aw T n<|Y<|b8.e []) (n+1)<|Y<|b8.e []) (n+1+1)<|Y<|b8.e [.e n,.e<|n+1];haveI z:(cV r t b g v<|n+1+1+1).t [.e n,.e<|n+1]=Y [[],[]]:=by unfold cV;simp only[Bs,Bt,V.t,(show v n=Y (.e [])from(aG<|bj<|j1 (as:0<2)).trans<|(aG<|bj<|b7 _).trans aR),(show v (n+1)=Y (.e [])from(aG<|bj<|b7 _).trans aR)];simp only[jU,a9 (show dA ([]:U V)fromλB h=>aC h ar)];rfl
 haveI y:b0 ((n+1+1)::eL [.e n,.e<|n+1]):=by refine(?_:(b0 (([n+1+1,n,n+1]:U O))));simp;exact@Gn _
 haveI A:(cV r t b g v<|n+1+1+1).l o a (.e<|n+1+1)=Y (.j (.b o a)<|g (.b o a)+1,cV r (cP t o a<|.a [[],[]]) b (dz g o a) (i8 v<|(n+1+1)::eL [.e n,.e<|n+1]) (n+1+1+1)):=by unfold av.l;refine J (a9 M) ?_;simp only[x,show(cV r t b g v<|n+1+1+1).a (n+1+1)=Y (.e [.e n,.e<|n+1])from aR,jU,z,S4,a9 y];unfold cV;exact J (qF s) I
 refine cf A<|k _ _ _ ?_<|gD _;haveI W:0∉((n+1+1)::eL [.e n,.e<|n+1]):=by refine(?_:0∉([n+1+1,n,n+1]:U O));simp;exact(aq [0,1,1] I:ap 1 0 [.e .i .a] (.f<|.a .i .a)) w
 unfold i8;exact J (bf W)<|(aG<|bj<|gD _).trans<|(aG<|bj<|gD _).trans<|aG<|bj w
theorem dE{a b:bo}{N:av}(h:dH C a (λf c A=>f.g (dH C b Q c A)<|Q f c A) L N):dH C (.d a b) Q L N:=h
end
end
mutual
def CS(Q:V->av->Prop):dk->U V->av->Prop:=λL p A=>L.a (Q .z A) λv=>Q v A
theorem pY{N:av}(T:a2 f=Y c)(x:Z i=c.d)(a:ov i=an)(h:dH (aO a2 d) c.b (CS j) (c.a i) N):aO a2 (d+1) f i j N:=cf T<|aP x (Cp a) h
theorem Kl(h:ll b y c=an):ll (cP b o f x) y c=an:=by
 unfold ll cP at*;refine jZ.symm▸(aM (eS.mp h) λA i=>eS.mpr ⟨A,?_⟩);by_cases e:y=o
 .subst e;exact J (jp<|l5 A)<|J jZ i
 .exact J (jo<|f8 e) i
def jA(t:U (U cd)):Prop:=∀o a,o<3->a<bS [28,32,34] o 0->ll t o a=an
theorem jA.e(h:jA b):jA<|cP b o c x:=λy d A i=>Kl<|h y d A i
def nw:U<|U cd:=jg.l.map λl=>l.map λp=>cd.n
theorem sd{l:U b1}{a:O}:((l.map λp=>cd.n)[a]?).getD cd.n=.n:=by refine J fL ?_;cases l[a]?<;>rfl
theorem Bo:jA nw:=by intro o a A i;match o,A,i with|0,_,i=>exact eS.mpr ⟨I,EJ i⟩|1,_,i=>exact eS.mpr ⟨I,EJ i⟩|2,_,i=>exact eS.mpr ⟨I,EJ i⟩
end
section
variable{r:O->a3 (U am)}{d n:O}{t:U (U cd)}{a:O->ba}{g:cN->O}{T:O->a3 b8}{Q:V->av->Prop}
mutual
theorem kl(h:v.f):dA [v]:=λx M=>J (b9.mp M) h
theorem m4:dA []:=λp h=>aC h ar
theorem ng(P:V->av->Prop)(h:P (.e n) (cV r t a g (aw T n<|Y<|.e [])<|n+1)):bA C (.e .d) L P<|cV r t a g T n:=⟨as,h⟩
theorem ks(f:∀P,P v (cV r t a g T n)->bA C c L P (cV r t a g T n))(P:V->av->Prop)(h:P (.e n) (cV r t a g (aw T n<|Y<|.e [v])<|n+1)):bA C (.e<|.b c .d) L P<|cV r t a g T n:=f _ ⟨show 1<=bi by decide,h⟩
def w6(t:U (U cd)):U<|U cd:=cP (cP (cP t 2 13<|.c []) 2 32<|.c [.a 0]) 2 33<|.e<|.a<|-1
theorem Kj(M:a 2=an)(B:jA t)(w:0<n)(k:∀u c v,c 0=T 0->0<v->Q .z (cV r (w6 t) a u c v)):aO a2 (d+1) 64 [.b 2] Q<|cV r t a g T n:=pY I I I<|dE<|gN I M I ng I m4 (B 2 13 as as) w λi L j x e=>dE<|gN I M I (ks λP h=>h) I (kl bk) (B.e 2 32 as as) e λl N m f X=>hj (.a<|-1) I M I (λP h=>h) (B.e.e 2 33 as as)<|k _ N _ (bx f x) X
def kD(t:U (U cd)):U<|U cd:=cP (cP (cP (cP (cP t 1 28<|.e<|.a 1000000000000) 1 29<|.e<|.a 1024) 1 30<|.c [.a 0]) 1 7<|.c []) 1 31<|.c [.a<|-1]
theorem Kg(M:a 1=an)(B:jA t)(w:0<n)(k:∀u c v,c 0=T 0->0<v->Q .z (cV r (kD t) a u c v)):aO a2 (d+1) 1 [.b 1] Q<|cV r t a g T n:=pY I I I<|dE<|hj (.a 1000000000000) I M I (λP h=>cf I h) (B 1 28 as as)<|dE<|hj (.a 1024) I M I (λP h=>h) (B.e 1 29 as as)<|dE<|gN I M I (ks λP h=>h) I (kl bk) (B.e.e 1 30 as as) w λo L q x e=>dE<|gN I M I ng I m4 (B.e.e.e 1 7 as as) e λs N y f X=>gN I M I (ks λP h=>h) I (kl bk) (B.e.e.e.e 1 31 as as) X λi j l p m=>k i j l (bx p<|bx f x) m
def jh(t:U (U cd)):U<|U cd:=cP (cP (cP (cP (cP (cP (cP t 0 0<|.e .z) 0 1<|.c [.a 0]) 0 2<|.c [.a 0]) 0 3<|.c [.a<|-1]) 0 4<|.c [.a 0]) 0 5<|.c [.a<|-1]) 0 6<|.a [[],[]]
def qE(t:U (U cd)):U<|U cd:=cP (cP (cP (cP (cP (cP (cP (cP (cP (cP t 0 7<|.e<|.b 1) 0 8<|.c []) 0 9<|.c []) 0 10<|.e<|.a 0) 0 11<|.e<|.a 0) 0 12<|.a []) 0 13<|.c []) 0 14<|.c []) 0 15<|.c []) 0 16<|.e<|.a 0
theorem Kh(M:a 0=an)(A:a 1=ax)(s:∀j,kE (jh t) 1 j=.n)(B:jA t)(w:0<n)(k:∀u i v,i 0=T 0->0<v->Q .z (cV r (qE<|kD<|jh t) (aw a 1 an) u i v)):aO a2 (d+2) 21 [.b 0,.z] Q<|cV r t a g T n:=by
 revert r d n t a g T Q;refine@fk _<|e0 @(letI r:=_;letI d:=_;letI n:=_;letI t:=_;letI a:=_;letI g:=_;letI T:=_;letI Q:=_;(e3 ?_:eE _ _ r d n t a g T Q));intros;have m:aw a 1 an 0=an:=(aG as).trans M;refine pY I I I<|dE<|hj .z I M I (λP h=>cf I h) (B 0 0 as as)<|dE<|gN (l:=[.a 0]) I M I (ks λP h=>h) I (kl bk) (B.e 0 1 as as) w λq' r' s' x y=>dE<|gN I M I (ks λP h=>h) I (kl bk) (B.e.e 0 2 as as) y λt' u' v' D X=>dE<|gN (l:=[.a<|-1]) I M I (ks λP h=>h) I (kl bk) (B.e.e.e 0 3 as as) X λw' x' y' E F=>dE<|gN I M I (ks λP h=>h) I (kl bk) (B.e.e.e.e 0 4 as as) F λz' A' B' G H=>dE<|gN (l:=[.a<|-1]) I M I (ks λP h=>h) I (kl bk) (B.e.e.e.e.e 0 5 as as) H λC' D' E' K L=>dE<|GY I M I (B.e.e.e.e.e.e 0 6 as as) L λF' G' H' N R=>?_;have W:=bx N<|bx K<|bx G<|bx E<|bx D x;have q:jA<|jh t:=B.e.e.e.e.e.e.e;refine dE<|aP A s<|Kg (d:=d) aR q R λS C p a' b'=>⟨I,?_⟩;have o:jA<|kD<|jh t:=q.e.e.e.e.e;haveI c':(cV r (kD<|jh t) (aw a 1 an) S C p).l 0 7 (.b 1)=Y (.b 1,cV r (cP (kD<|jh t) 0 7<|.e<|.b 1) (aw a 1 an) (dz S 0 7) C p):=by unfold av.l cV;rw[a9 m,<-qF<|o 0 7 as as]
 refine cf I ⟨I,cf c' (?_:dH (aO a2<|d+1) (.d (.b (.f (.c 0) 0 8)<|.e .d) _) (CS Q) [.b 0,.z] (cV r (cP (kD<|jh t) 0 7<|.e<|.b 1) (aw a 1 an) (dz S 0 7) C p))⟩;refine dE<|gN I m I ng I m4 (o.e 0 8 as as) b' λI' J' K' d' e'=>?_;exact dE<|gN I m I ng I m4 (o.e.e 0 9 as as) e' λL' M' N' f' g'=>dE<|hj (.a 0) I m I (λP h=>h) (o.e.e.e 0 10 as as)<|dE<|hj (.a 0) I m I (λP h=>h) (o.e.e.e.e 0 11 as as)<|dE<|GX I m I (o.e.e.e.e.e 0 12 as as) g' λO' P' Q' h' i'=>dE<|gN I m I ng I m4 (o.e.e.e.e.e.e 0 13 as as) i' λR' S' T' j' k'=>dE<|gN I m I ng I m4 (o.e.e.e.e.e.e.e 0 14 as as) k' λU' V' W' l' m'=>dE<|gN I m I ng I m4 (o.e.e.e.e.e.e.e.e 0 15 as as) m' λX' n' Y' o' p'=>hj (.a 0) I m I (λP h=>h) (o.e.e.e.e.e.e.e.e.e 0 16 as as)<|k _ n' _ (bx o'<|bx l'<|bx j'<|bx h'<|bx f'<|bx d'<|bx a' W) p'
def w5(t:U (U cd)):U<|U cd:=cP (cP (cP (cP (cP (cP (cP (cP (cP (cP (cP t 0 17<|.e<|.b 2) 0 18<|.c [.h ax]) 0 19<|.c [.z]) 0 20<|.e<|.a 0) 0 21<|.e<|.h an) 0 22<|.e .z) 0 23<|.e<|.g []) 0 24<|.e .z) 0 25<|.e<|.a 0) 0 26<|.e<|.a 0) 0 27<|.e<|.a 0
theorem Ki(M:a 0=an)(A:a 1=ax)(s:∀e,kE (jh t) 1 e=.n)(B:jA t)(w:0<n)(k:∀u c v,c 0=T 0->0<v->Q .z (cV r (w5<|qE<|kD<|jh t) (aw a 1 an) u c v)):aO a2 (d+3) 38 [.b 0,.b 2,.z] Q<|cV r t a g T n:=have i:=(aG as).trans M;have j:jA<|qE<|kD<|jh t:=B.e.e.e.e.e.e.e.e.e.e.e.e.e.e.e.e.e.e.e.e.e.e;pY I I I<|dE<|cf I<|Kh M A s B w λy L C x l=>dE<|hj (.b 2) I i I (λP f=>cf I f) (j 0 17 as as)<|dE<|gN I i I (ks λP f=>f) I (kl bk) (j.e 0 18 as as) l λD N E m X=>dE<|gN I i I (ks λP f=>f) I (kl bk) (j.e.e 0 19 as as) X λF o G p q=>dE<|hj (.a 0) I i I (λP f=>f) (j.e.e.e 0 20 as as)<|dE<|hj (.h an) I i I (λP f=>f) (j.e.e.e.e 0 21 as as)<|dE<|hj .z I i I (λP f=>f) (j.e.e.e.e.e 0 22 as as)<|dE<|hj (.g []) I i I (λP f=>⟨as,f⟩) (j.e.e.e.e.e.e 0 23 as as)<|dE<|hj .z I i I (λP f=>f) (j.e.e.e.e.e.e.e 0 24 as as)<|dE<|hj (.a 0) I i I (λP f=>f) (j.e.e.e.e.e.e.e.e 0 25 as as)<|dE<|hj (.a 0) I i I (λP f=>f) (j.e.e.e.e.e.e.e.e.e 0 26 as as)<|hj (.a 0) I i I (λP f=>f) (j.e.e.e.e.e.e.e.e.e.e 0 27 as as)<|k _ o _ (bx p<|bx m x) q
end
end
mutual
theorem H3(s:aB):oe s=kE (s.l.map λl=>l.map b1.j):=by funext o a;refine(?_:(gR s.l o a).j=_);unfold gR kE;refine J fL ?_;cases s.l[o]?with|none=>rfl|some l=>refine(J fL ?_:((l[a]?).getD b1.f).j=((l.map b1.j)[a]?).getD .n);cases l[a]?<;>rfl
theorem Q3:w5 (qE<|kD<|jh<|w6 nw)=jg.l.map λl=>l.map b1.j:=I
theorem Q9{N:av}(M:Z R<=63)(r:N.m h=Y R)(s:∀f:O,2<=f->f<=4->j .b (oo h (.a f) .d) N):dH C (.b (.a 3)<|.m cY (.a 2)<|.D (.l d1 (.k<|.c 0)<|.a 0) (.m hL (.n<|.i (.c 0)<|.a 0)<|.a 3)<|.a 0) j (oo h .d .d) N:=by
 haveI o:N.i (.k h)=Y (R.map V.a):=(J r I:(N.m h).map _=_);haveI x:Z (R.map V.a)<=bi:=J (bv ..)<|aH M as;haveI p:∀f:O,f<3->∀z:am,z=f->3<Z (oo h .d .d)/\V.a (2+z)≠.d/\j .b (oo h (.a<|2+z) .d) N:=λf t z E=>J E<|aP (as:3<16) ar<|s (2+f) (@Go _)<|(aq [1,1] I:ap 1 0 [.e .a<|.c 3] (.g (.e (.c 2) .a)<|.c 4)) t;refine cf o ⟨x,(?_:ix (a0<|(0:am)<(Z (R.map V.a):O)) _ _)⟩;cases q:a0 ((0:am)<(Z (R.map V.a)))with
 |false=>exact p 0 as _ I
 |true=>
  haveI q:=fa q;haveI u:0<Z R:=by rw[bv ..]at q;exact(aq [1,1] I:ap 1 0 [.b .i .g] (.e .i .a)) q
  exact cf o<|bV (@Gp _) as x<|cf (J fL<|J (cl u) I:(R.map V.a)[(bM (if(0:am)<0 then(0:am)+Z (R.map V.a)else 0))]?=Y (V.a R[0])) ⟨as,p (ao R[0]%3) (nG _ as) _ I⟩
theorem KH(M:Z R<=63)(C:e f=Y R)(x:∀N,i (.h an) N):aO a2 (j+14) 79 [.k f] i<|cV e nw (λp=>ax) l m 1:=by
 refine pY I I I<|dE<|aP I (λa=>sd)<|Kj aR Bo (gD _) λX G H K y=>bV I (as:1<16) ar<|dE<|cf I<|aP I (λa=>sd)<|Ki aR I (λa=>sd) Bo.e.e.e y λt u w P S=>bV I (as:2<16) ar ?_;haveI z:aw (aw (aw (λp=>ax) 2 an) 0 an) 1 an=λo=>e6 o 3:=by funext o;match o with|0=>rfl|1=>rfl|2=>rfl|o+3=>rfl
 haveI A:cV e (w5<|qE<|kD<|jh<|w6 nw) (aw (aw (aw (λp=>ax) 2 an) 0 an) 1 an) t u w=aL jg ⟨t,u,w,e⟩:=by unfold cV aL;rw[z,Q3,<-H3]
 refine J A<|dE<|Q9 M C λn B D=>CM (jz a2 _) _ (eg λv s E=>v=.h an) _ _ _ _ (λF L s E q=>?_)<|Ld B D M C QU λp p=>I;induction F with|c v=>exact J q<|x _|b=>exact aC q ar|_=>exact be q
end
section
variable{K:j3->et}(H:yw K)
include H
mutual
theorem KG(g:j.heap.Ns eO p)(z:j.heap.Ns rx s)(D:j.heap.NoLimit)(T:∀x:aQ,x≠"__name__"->s x=pm x)(C:(K w.params).In (bz j))(N:p (gG "law")=Y (aN m))(Q:j.gens=#[])(S:j.heap.get? l=Y ⟨bq "list",au,c9 its n,#[]⟩)(W:iU (cx its) xs)(B:Z xs<=63):f9 (a7 lL.prog w) callerA (nH (aN m) ⟨[aN l],[]⟩) (λr X=>r=fJ (gp<|jw an)/\(∀z o,j.heap.get? z=Y o->X.heap.get? z=Y o)/\X.os=j.os/\X.gens=#[]) j:=by
 haveI R:m=759:=by haveI:=mg_of C g<|gk<|H.h w.params;rw[N]at this;injection this with u;injection u
 refine J R ?_;let a':bZ:=⟨lL.prog,w,K w.params,bz j,j.os,p,s⟩;let c:bl:=⟨λy=>0,λy=>0,cV (λx=>if x=l then Y xs else au) nw (λy=>ax) (λy=>0) (λy=>au) 1,j⟩;haveI b':∀L,c.a.g L=au:=λL=>by
  haveI M:∀o m,kE nw o m=.n:=λo m=>by unfold kE nw;refine J fL ?_;cases jg.l[o]?with|none=>rfl|some h'=>exact sd
  cases L with|b o m=>exact aW (λA:cd=>(A.d λi=>V.j (.a o m i)<|c.a.e<|.a o m i).map b8.e)<|M o m|a o m i=>exact aW (λA:cd=>A.b λc'=>(c'[i]?).map b8.e)<|M o m|e i'=>rfl|f o=>rfl
 have E:∀{L:cN}{P:Prop},c.a.h L->P:=λ{L P}u=>by refine bH u λx t=>?_;rw[b']at t;exact aC t ar
 haveI d':aV a' c:=⟨λy y t=>t,Q,I,λL x t=>E ⟨x,t⟩,λL u=>E u,λL j' u y y=>E u,λo u=>aC u ar,λy y=>I,λx e' t=>by
  haveI t:(if x=l then Y xs else au)=Y e':=t;by_cases q:x=l
  .rw[a9 q]at t;exact az (bE t)<|J q<|dr its n S W
  .rw[bf q]at t;exact aC t ar⟩;refine nN (OC H I I ⟨C,g,z,D,T⟩ (Oo ⟨C,g,z,D,T⟩) (Ot ⟨C,g,z,D,T⟩) 14 79 callerA c (λv y=>v=.h an) [.k l] [aN l] ⟨I,as,as⟩ d' (.b (.k l) .d)<|KH B (a9 I) λy=>I) λf' X u=>?_;cases f' with|error t=>exact be u|ok A=>cases A with|ret v=>refine bd.casesOn u λk' l' F y G g'=>?_;replace G:=g'▸G;exact bV (aW (λv=>fJ<|gp v) G.m) F.d F.f F.j|_=>exact be u
set_option tactic.hygienic true in theorem T3{w:fB}{P d:bB}{m q:aQ->a3 aZ}(s:d.heap.Ns eO m)(t:d.heap.Ns rx q)(u:d.heap.NoLimit)(T:∀x:aQ,x≠"__name__"->q x=pm x)(y:(K w.params).In (bz d)){i:aU}(B:m (gG "law")=Y (aN i))(C:d.gens=#[])(Q:U WData)(j:U aZ)(r:U aU)(F:lL.row.toRowW.claim.pre Q=an)(M:WData.layableAll Q=an)(R:ReadsAllW lL.row.toRowW.records (classAt (bz P)) (bz d) j Q r)(E:WellAll w.params (bz d) j Q)(G:∀i:aU,i∈r->(i==ue)=ax):bc (a7 lL.row.toRowW.prog w) callerA (e9 (aN i) j) (λv X=>GoodWG lL.row.toRowW.claim (classAt (bz P)) (Tm (bz P)) Q d (fJ<|gp v) X) (λe X=>GoodWG lL.row.toRowW.claim (classAt (bz P)) (Tm (bz P)) Q d (jX e) X) d:=by wrow_args F M R E G;rename_i L _ _ _ _ _ _ _ f' D _ N _ S _ W _ l _;cases S with|list A _=>rename_i o _;refine bb ?_;intro g';refine RC N λh' z k i' a'=>?_;rw[A]at z;obtain rfl:=bE z;refine enter_call<|nN (KG H s t u T y B C (its:=c1 D) (n:=0) (xs:=L) (az (by injection a':o.toArray=D.toArray) A) (by simpa using W) (by exact(aq [1,1] I:ap 1 0 [.f<|.b (.p<|.c 63) .g] (.g .a<|.c 63)) l)) λj' X h=>?_;haveI b':=h.1;haveI c':=h.2.1;haveI d':=h.2.2.1;haveI e':=h.2.2.2;refine J b' ?_;refine GoodW.toG<|bV (aK<|h4 (jw an) (.bool an) [] I<|bV (λk=>I) (.bool an) ?_ λk=>⟨fm,λk h=>aC h ar⟩) c' d' e';first|with_unfolding_all rfl|kernel_rfl|decide|simp
end
end
local macro_rules (kind:=Lean.Parser.Command.in)|s=>return Lean.mkNullNode (Nat.rec #[] (fun i a=>if Nat.testBit 0x77bdef7bdfbdfa8ff7bf7ef7eefa3ff7efdfbf7efdfbf77a3bf7efda03ef7ef7efdfbf7efdfbdf3ff7bf7efdfbf7ef7ef7efdefdefdfbf7efdfbf7bf4407defdfbf7efdfbf7efdde7ffbf7efdfbf7efdfbf7ef7efdfbf7efdfbf7eef47dfbf7ea03dfbf7efdfbf7efdfbf7bcfff7bf7efdfbf7efdfbf7efdfbf7ef7a3ff7ef7e8ffefdeffd60d00000000000 i then a.push (s[2].setArg 1 (s[2][1].setArg 1 (s[2][1][1].setArg 0 (Lean.mkIdent ((`z).str ("tw"++toString ((`Mine.Internal.z.o_1).appendIndexAfter i).hash)))))) else a) 1200)
mutual open Nat in theorem x:True:=⟨⟩
theorem z.tw6038984653214261126:True:=⟨⟩
theorem z.tw5285423851554521074:True:=⟨⟩
theorem z.tw4704536124079069905:True:=⟨⟩
theorem z.tw12747344052388036553:True:=⟨⟩
theorem z.tw680410896279018964:True:=⟨⟩
theorem z.tw11903431061039162938:True:=⟨⟩
theorem z.tw2636381078687415026:True:=⟨⟩
theorem z.tw343918739247260259:True:=⟨⟩
theorem z.tw9297719186733357004:True:=⟨⟩
theorem z.tw8542409703889385457:True:=⟨⟩
theorem z.tw12287226897336657572:True:=⟨⟩
theorem z.tw6442306717182531503:True:=⟨⟩
theorem z.tw3528277181762118881:True:=⟨⟩
theorem z.tw8029729205600134284:True:=⟨⟩
theorem z.tw15481677727786340495:True:=⟨⟩
end
set_option Elab.async true
theorem z:PySem.Challenge.rw_no0027_01.Holds:=by
 w_on;o_law;k_head;case hw=>w_witness2
 intro _ _ _ _ _ G Y _ _ _ _ _ _ _ _ _ _ _ A B C D E F G' H I J
 refine T3 ?_ G.T.g G.T.b G.T.nolimit G.T.builtins (kIn_of Y) A B C D E F G' H I J
 constructor<;>intros<;>as_aux_lemma=>kernel_rfl
end Mine.Internal
theorem PySem.Challenge.cw_no0027_01_holds : PySem.Challenge.rw_no0027_01.Holds :=
 Mine.Internal.z
