import PyProof.Rows.All
import OpenK.XOpen
import OpenK.ZHead
import KE.KIntText
import Flt.Len
import PyProof.Rows.Tup
import PyProof.Rows.Many
import PyProof.RangeFor
import PyProof.Rows.CellsKey
import PyProof.PassesOwn
import PyProof.DictKinds
import PyProof.DictList
import PyProof.EqKinds
import PyProof.NeKinds
import PyProof.Rows.StrRules
import PyProof.Rows.IntRules
import PyProof.Rows.RuleB_and
import PyProof.Rows.RuleB_mul
import PyProof.Rows.RuleB_mod
import PyProof.Rows.RuleB_floordiv
import PyProof.Rows.RuleC_int
import PyProof.Rows.RuleU_int
import OpenK.KWalk
import PyProof.ListOps
import PyProof.TupleOps
import PyProof.FactsAll.tuple_2
import PyProof.Rows.SeqMore
import PyProof.ListMulRoad
import PyProof.ListMulAny
import PyProof.Rows.IntMath
import PyProof.PureInt
import PyProof.Rows.ListMulArg
import PyProof.AutoRange
import PyProof.SeqRoads2
import PyProof.FactsAll.range_1
import PyProof.IsRules
import PyProof.Rows.RuleIs2
import PyProof.DictStraight
import PyProof.DictRoads
import PyProof.StrLaws
import PyProof.StrLawsIn
import PyProof.StrBlock
import PyProof.ListIndexNeg
import PyProof.SliceMore
import PyProof.DelItemList
import PyProof.SliceStr2
import PyProof.Rows.TupMore
import PyProof.Rows.Lst
import PyProof.SeqRoads
import PyProof.AutoSeq1
import PyProof.Rows.RuleB_sub
import PyProof.CallStr
import PyProof.Conv_int_bool
import PyProof.FitsInt
import KE.IntTextLaws
import PyProof.Rows.RuleN_abs
import PyProof.Rows.Range3
import PyProof.WalkInts
import PyProof.TupleOfSeq
import PyProof.TypeOfCall
import PyProof.SumAny
import PyProof.WalksMore
import PyProof.ListRange
import PyProof.ToksMono
import PyProof.StrCalls2
import PyProof.StrCalls5
import PyProof.StrCalls6
import PyProof.StrLawsTight
import PyProof.StrLawsChain
import PyProof.StrLawsFrom
import PyProof.StrLawsJoin
import PyProof.Rows.StrCase
import PyProof.Rows.StrNews2
import PyProof.Methods
import PyProof.StrLawsOcc
import OpenK.KMake
import OpenK.KCls
import PyProof.LetGo
import PyProof.Rows.Chain
import PyProof.Rows.TupSub
import PyProof.Rows.Exc
import PyProof.Rules3
import PyProof.MakeMany
import PyProof.Dict
import KE.KTurns
import KE.KPairComp
import PyProof.CompFree
import PyProof.TupleIter
import PyProof.Rows.TupIter
import PyProof.Walks
import PyProof.RulesAssignMore
import PyProof.RulesDel
import PyProof.Rows.Catch
import PyProof.ExcFactsAll.ValueError
import PyProof.AssignAttr
import PyProof.ForAny
import PyProof.ExcAttrAll.ValueError
import PyProof.Rows.GenRowsK
import Wide.All
import OpenK.AllK
import Wide.FinOn
import Lean
import PySem.Challenge.RW_sx_r130_1
set_option autoImplicit true
set_option linter.all false
set_option genSizeOf false
set_option genSizeOfSpec false
set_option genInjectivity false
set_option genCtorIdx false
set_option backward.match.sparseCases false
set_option maxRecDepth 1000000
set_option exponentiation.threshold 2000
set_option maxHeartbeats 0
set_option Elab.async false
set_option tactic.hygienic false
open Array renaming any_toList->wO,getD->Array.l,getElem?_eq_some_iff->jv,getElem?_toList->dI,isEmpty_iff->uU,isEmpty_iff_size_eq_zero->iE,length_toList->eG,mem_toList_iff->lY,setIfInBounds->Array.jX,size->Array.k,toList->Array.u,toList_append->gK
open Bool renaming and_eq_true_iff->ae,and_false->hH,and_true->tv,eq_false_iff->b6,eq_iff_iff->gH,false->aw,false_ne_true->bJ,noConfusion->aR,not_eq_eq_eq_not->jh,not_eq_true'->vY,or_eq_false_iff->bN,or_eq_true_iff->aZ,true->ax
open Char renaming toNat->z8
open Decidable renaming decide->bg
open Eq renaming mp->Eq.g,symm->Eq.h,symm->Ox,trans->CD,trans->Eq.b
open Exists renaming elim->Exists.e,elim->lU,imp->Exists.I
open False renaming elim->False.e
open ForInStep renaming yield->o9
open Iff renaming mp->Iff.g,mpr->Iff.i,symm->Iff.h,trans->Iff.b
open Int renaming add_comm->iy,add_sub_assoc->wN,add_sub_cancel->cT,add_zero->nv,eq_ofNat_of_zero_le->dn,fdiv->Int.lD,fmod_eq_emod_of_nonneg->n8,le_min->J4,le_of_eq->wM,le_of_lt->i7,le_total->EZ,le_trans->ee,lt_of_le_of_lt->n7,lt_of_lt_of_le->ks,lt_trans->EY,max_eq_left->zI,max_eq_right->jS,min_eq_left->eW,min_eq_right->gi,min_le_right->iK,mul_comm->wL,natAbs->Int.o,natAbs_neg->Bb,natCast_add->zH,natCast_nonneg->bq,negSucc->iU,neg_nonpos_of_nonneg->pw,not_le->fP,not_lt->dQ,ofNat->gc,ofNat_le->cy,ofNat_lt->cM,ofNat_sub->uH,sub_eq_add_neg->uT,sub_eq_iff_eq_add->rT,sub_nonneg_of_le->jH,sub_nonpos_of_le->mn,sub_sub->zg,sub_sub_self->ql,sub_zero->qD,toNat->Int.p,toNat->tf,toNat_eq_zero->wK,toNat_le->i5,toNat_lt->nu,toNat_natCast->o8,toNat_of_nonneg->iI,zero_add->jR
open Int.ofNat renaming inj->kQ
open LawfulBEq renaming eq_of_beq->vX
open List renaming Nodup->List.kl,all->List.oG,all_eq_true->dz,any_cons->tu,append_assoc->ag,append_nil->bD,cons_append->eF,cons_ne_nil->cP,drop->List.m,dropWhile->List.V,dropWhile_cons->tc,drop_drop->kP,drop_eq_getElem_cons->jQ,drop_eq_nil_iff->sd,drop_eq_nil_of_le->kO,drop_length->p6,drop_nil->o7,drop_of_length_le->qz,drop_zero->jA,filter->List.ke,filterMap->List.jB,filterMap_cons->mL,filter_cons->ef,find?_cons->zf,findIdx?->List.ng,flatMap->List.kJ,getD->List.l,getD_eq_getElem?_getD->cD,getElem?_append_left->cY,getElem?_append_right->dH,getElem?_concat_length->eJ,getElem?_drop->kq,getElem?_eq_getElem->bV,getElem?_eq_some_iff->a7,getElem?_map->cS,getElem?_nil->eh,getElem?_set_ne->bA,getElem?_set_self->gT,headD->List.uI,length->List.a,length->cC,length_append->ai,length_drop->fS,length_eq_zero_iff->gE,length_map->ay,length_range->iq,length_replicate->gf,length_reverse->mK,length_set->bX,length_take->pZ,length_take_le'->mh,lookup->GQ,lookup->List.j,lookup_cons->iH,map->List.d,map_append->cw,map_congr_left->jW,map_cons->je,map_map->gR,map_nil->qy,mem_append->ze,mem_append_left->sb,mem_append_right->lK,mem_cons->cz,mem_cons_of_mem->de,mem_cons_self->dY,mem_map->iT,mem_of_getElem?->eQ,mem_range->sa,mem_singleton->a6,nil_append->d9,nodup_cons->eC,nodup_nil->jz,not_mem_nil->dm,range->ew,range'->r9,replicate->cZ,reverse->List.B,reverse_cons->jm,set->List.w,set_append_right->lJ,set_set->nc,sum_cons->fX,tail->List.R,take->List.K,takeWhile->List.G,takeWhile_cons->gO,take_append_drop->ru,take_left->z7,take_length->xd,take_nil->o6,toArray->List.N,zipWith->vW
open List.IsPrefix renaming trans->List.IsPrefix.b
open List.Mem renaming tail->List.Mem.R
open List.Pairwise renaming imp->List.Pairwise.I
open Max renaming max->vV
open Min renaming min->jd
open Nat renaming add_assoc->bW,add_comm->cv,add_le_add->aL,add_le_add_left->ar,add_le_add_right->aj,add_left_comm->wJ,add_lt_add_left->tq,add_lt_add_right->jG,add_right_comm->bo,add_sub_cancel_left->gG,add_sub_of_le->gF,beq->aM,beq_refl->gU,ble->bM,ble_eq_true_of_le->cK,blt->cL,casesOn->d6,eq_of_beq_eq_true->aD,le_add_left->aF,le_add_left_of_le->rR,le_add_right->ak,le_antisymm->rt,le_max_left->da,le_max_right->cJ,le_mul_of_pos_left->i4,le_of_ble_eq_true->aa,le_of_eq->aV,le_of_lt->dK,le_of_lt_succ->lg,le_of_not_lt->iJ,le_of_succ_le->aT,le_of_succ_le_succ->aY,le_refl->au,le_succ->bh,le_succ_of_le->b7,le_total->EX,le_trans->ab,lt_add_of_pos_right->cX,lt_add_right->qk,lt_irrefl->kj,lt_of_le_of_lt->aQ,lt_of_lt_of_le->aS,lt_of_not_le->xG,lt_of_succ_lt_succ->fZ,lt_succ_of_le->wI,lt_succ_of_lt->bb,lt_succ_self->cA,lt_trans->cH,max_le->bj,min_eq_left->zG,min_eq_right->qj,min_le_right->gh,mul_le_mul_left->bP,mul_le_mul_right->jF,ne_of_gt->dW,ne_of_lt->b5,not_le_of_lt->qi,not_lt->iZ,not_lt_of_le->eg,not_lt_zero->fL,one_mul->sD,sub_add_cancel->uR,sub_eq_zero_of_le->hW,sub_le->fO,sub_le_of_le_add->mm,sub_lt_sub_left->tn,sub_self->k9,sub_sub->sC,succ->ix,succ_add->EW,succ_add_eq_add_succ->gs,succ_le_succ->az,succ_lt_succ->bL,succ_mul->wH,succ_ne_zero->xF,succ_pos->cp,zero_add->dJ,zero_le->bG,zero_lt_succ->eY
open Nat.succ renaming inj->js
open Ne renaming symm->Ne.h,symm->gJ
open Option renaming bind->Option.J,bind_some->vU,elim->Option.e,getD->Option.l,isNone_iff_eq_none->jE,isSome->Option.kI,map->GP,map->Option.d,map_eq_some_iff->iP,none->Option.s,none->aq,some->ah,toList->Option.u
open Option.some renaming inj->aK
open Or renaming elim->Or.e,imp->Or.I,inl->Or.C,inr->Or.y,resolve_left->Or.Y
open Pure renaming pure->ij
open PyProof.Rows renaming AllBare->EF,assignInOrder_cons->pv,assignInOrder_nil->zF,letGo_tupleiter->CP,wpAny_operate'->EV,wpAny_release'->EU
open PySem renaming Addr->eH,Around->k8,Env->Ob,ExceptHandler->Ik,Expr->fU,FuncData->zB,Heap->eI,NameKind->rQ,Obj->R1,PassesOwn->JM,Program->jk,Scope->uP,Shared->bH,Stmt->mJ,Str->ft,Value->bz,World->lA,assign->sA,assignInOrder->qC,attributeBase->m6,backTo->iY,behindInMarks->qA,binaryOp->ju,bindArgs->ES,bindName->Oo,bootBuiltins->zA,builtinsNs->j1,cLine->uO,call->k6,callWith->ER,call_meets->pk,call_type_of->J0,cameBackBy->TK,cellsFrom->rN,codeAny->oF,compEnv->zz,compEnvC->zy,compareOp->gx,concat_meets->JZ,delItem->JY,eval->ji,evalOpt->zx,eval_Constant->xc,foldedSetIterable->iD,getItem->m5,getitemInPython_of_ne->mB,holding->hO,inplaceOp->vQ,isTrue->TJ,keywordEach->Om,letOwnedTupleGo->CN,lookup_relabel_local->nq,mainGlobals->dv,mem_of_lookup->xb,model->rM,newFields->JL,newList->JX,noFill_tuple_add->A8,rawInt->A7,recursionLimit->pj,release->JW,seq_tuple_add->Ig,setItem->lX,sizeLine->ph,sizeLine_eq->qw,sliceBounds->CB,slot_list_setitem->qv,spliced->vP,standAt->m4,starEach->eB,strKind_is->EP,strValues->JK,swappedStores->w8,swapsWith->lz,swapsWithSole->w7,sysModules->pg,truthy->TG,typeIs_int->EO,typeIs_str->EN,valueAt->zw,valueOrNone->nk,wpAny->bc,wpAny_Assign_Name->zv,wpAny_Name->k0,wpAny_Return_some->zu,wpAny_allTrue_And_cons->lW,wpAny_assign_Name->jN,wpAny_assign_Tuple->xA,wpAny_bind->aG,wpAny_call->EM,wpAny_call_entry->A6,wpAny_execs_cons->iX,wpAny_execs_nil->iC,wpAny_field->nj,wpAny_holding->b9,wpAny_letTemporaryGo->uN,wpAny_listPart->EL,wpAny_loadName_local->fV,wpAny_mono->mH,wpAny_newObj_type->jM,wpAny_of_eq->uM,wpAny_passesOwn->CM,wpAny_pure->br,wpAny_pyIter_tuple->pf,wpAny_rule->EK,wpAny_seqItems->uL,wpAny_setField->EJ,wpAny_specialOf->n5,wpAny_standAt->dh,wpAny_storeName_local->mA,wpAny_toks_of->Ie,wpAny_truthy_bool->dZ,wpAny_typeOf->zt,wpAny_with_toks->fT
open PySem.Builtin.Int renaming intBits->jl
open PySem.Builtin.List renaming listItems->jV,listSubscript?->gu,listTooLong->gZ
open PySem.Builtin.Str renaming occurrences->Ow,strSliceIndices->gy,tooLong->xE
open PySem.Calls renaming Constant_str->J3,Name_function_global->nt,loadGlobal_builtin->xD,spliced_cons->ki,spliced_nil->qx
open PySem.Code renaming builtin->PySem.Code.z,builtin->vS
open PySem.Const renaming int->PySem.Const.O,none->PySem.Const.s
open PySem.Data renaming fields->PySem.Data.T
open PySem.Env renaming kindOf->PySem.Env.Q,locals->PySem.Env.lC
open PySem.Expr renaming Attribute->PySem.Expr.E,Call->PySem.Expr.Z,Compare->PySem.Expr.j4,Constant->PySem.Expr.H,ListComp->PySem.Expr.M,Name->PySem.Expr.r,Subscript->PySem.Expr.P,Tuple->PySem.Expr.X,pos->PySem.Expr.x
open PySem.F renaming args_tuple_add_2->wG,entry_tuple_add->xC,slot_list_append->wF,slot_tuple_add->zD
open PySem.Heap renaming FunFrames->PySem.Heap.jD,IsTuple->PySem.Heap.mD,SameBut->gr,StaysIn->PySem.Heap.jC,get?->PySem.Heap.f,get?_none_of_le->mf,get?_push_of_some->bE,get?_push_size->bY,get?_update_other->gQ,get?_update_self->lI,lt_size->dU,objs->PySem.Heap.q,size_push->nD
open PySem.Heap.IsSliceOf renaming new->lB
open PySem.Heap.SameBut renaming update->hX
open PySem.IsPart renaming int->PySem.IsPart.O,none->PySem.IsPart.s
open PySem.NameKind renaming cell->rP,free->gI,globalImplicit->PySem.NameKind.A,«local»->PySem.NameKind.F
open PySem.NumText renaming digitsVal->o5
open PySem.Obj renaming data->PySem.Obj.U,data_mapFields->uQ,isFreed_of_fields->lT,mapSeq->n6
open PySem.PyData renaming keyHash->m8
open PySem.Scope renaming kind->PySem.Scope.mC,names->PySem.Scope.n
open PySem.ScopeKind renaming function->PySem.ScopeKind.L
open PySem.SeqAt.EqAt renaming same->Oa
open PySem.Shared renaming TypeIs->PySem.Shared.S,heap->PySem.Shared.c,toks->PySem.Shared.D
open PySem.Slot renaming lookup->PySem.Slot.j
open PySem.Stmt renaming Assign->PySem.Stmt.W,AugAssign->PySem.Stmt.km,pos->PySem.Stmt.x
open PySem.Str renaming join->Ba,length->A9,length->PySem.Str.a
open PySem.StrLaws renaming At->pq
open PySem.Txt renaming replace->Ij
open PySem.Value renaming bool->tm,builtin->PySem.Value.z,int->PySem.Value.O,int->wD,none->PySem.Value.s,none->fW,ref->PySem.Value.t,ref->wC,type->Ii,type->PySem.Value.v
open PySem.W renaming Frag->pn,callWith_of->CC,dictOf->J2,emptyDict->rO,findIn->xB,getL->Ov,instObj->vR,keepIn->J1,mg_none_of->ET,nsIn->Ot,plainGet_of->Oq,typeIn->TL
open PySem.W.KTurns renaming ofWalks->m7
open PySem.W.Looks renaming of_pure->s8
open PySem.Walks renaming list->Ih,tuple->oC
open String renaming toList->String.u
open _root_ renaming Array->rU,Bool->bC,False->cR,Int->aU,List->ao,Nat->aB,Option->aJ,String->xy,absurd->bZ,beq_eq_false_iff_ne->dR,beq_iff_eq->j0,beq_self_eq_true->kh,cond->kr,congrArg->aW,decide_eq_false->bR,decide_eq_true->bF,if_false->Ol,if_neg->dA,if_pos->c7,if_true->vO,of_decide_eq_false->cV,of_decide_eq_true->aX,rfl->af,trivial->kN
namespace Mine.Internal
open PySem PySem.W PySem.W.X PySem.W.Fast
noncomputable def q1:jk:=view PySem.Challenge.pw_sx_r130_1 [1,2,3,4,5,6,7,8,9,10,11,12,13,14,15,16,17,18,19,21,22,23,24,25,26,27,28,29,30,31,32,33,34]
noncomputable def Bn:ao ft:=["_WORDS"]
noncomputable def K1 (p:jk)(w:lA)(N:aB)(s₀:bH):aJ bH:=
 match s₀.c.isNs dv&&s₀.gens.k==0 with
 |true=>(tw14082659384304107361 tw14364793385576792824 p w s₀.c.q.k (s₀.c.nsMap dv "__annotations__") N s₀ (topStub p)).J λs₁=>match staticsOk (importedModules p.main.body) s₀.c s₁.c&&namesBound p s₁.c&&gensDone s₁&&laidKept s₀.c s₁.c with
   |true=>ah s₁
   |false=>aq
 |false=>aq
theorem OW (p:jk)(w:lA)(N:aB)(s₀:bH):topFrom treeTable p w N s₀=K1 p w N s₀:=by
 unfold topFrom K1;rw [te14082659384304107361,te14364793385576792824];rfl
noncomputable def K0 (p:jk)(w:lA)(N:aB):aJ bH:=
 (tw10274390034422433532 tw14364793385576792824 (opening p) w N (tw1435165496053646825 (opening p)).1 (tw1435165496053646825 (opening p)).2).J (tw14289696077712309145 p)
theorem OH (p:jk)(w:lA)(N:aB):fencedOpening treeTable p w N=K0 p w N:=by
 unfold fencedOpening K0;rw [te10274390034422433532,te14364793385576792824,te1435165496053646825,te14289696077712309145]
noncomputable def tL (p:jk)(w:lA)(N:aB):aJ bH:=(K0 p w N).J (K1 p w N)
theorem Pg (p:jk)(w:lA)(N:aB):openEnds treeTable p w N=tL p w N:=by
 unfold openEnds tL;rw [OH];congr 1;funext s;exact OW p w N s
open PySem PySem.W PySem.W.X PySem.W.Fast
theorem wsa:tw17960256430627541270 (tw2368527892694137696 PySem.Challenge.rw_sx_r130_1)=ax:=by kernel_rfl
theorem ws1:PySem.Challenge.rw_sx_r130_1.wellSaid=ax:=by
 rw [te9446332074065402090];unfold tw9446332074065402090;rw [wsa];kernel_rfl
open PySem (Value Addr)
abbrev Tx:=ao aB
inductive AV where
 |h
 |g (b:bC)
 |d (i:aU)
 |c (s:Tx)
 |f (vs:ao AV)
 |e (r:aB)
 |k (lo hi st:aU)
 |j (vs:ao AV)
 |l (v:bz)
noncomputable def AV.ctorIdx (x:AV):aB:=@AV.casesOn (λz=>aB) x 0 (λz=>1) (λz=>2) (λz=>3) (λz=>4) (λz=>5) (λz z z=>6) (λz=>7) λz=>8
set_option genCtorIdx true in
inductive At where
 |ts|A5|r8
deriving DecidableEq
inductive MO where
 |a (vs:ao AV)
 |d (es:ao (Tx×AV))
 |b (c:aB) (fs:ao (At×AV))
noncomputable def MO.ctorIdx (x:MO):aB:=@MO.casesOn (λz=>aB) x (λz=>0) (λz=>1) λz z=>2
abbrev a8:=ao MO
noncomputable def gL:aB:=1000000
noncomputable def n9:aB:=1099511627776
set_option genCtorIdx true in
inductive TF where
 |a|c|d|e|b|f
set_option genCtorIdx true in
inductive COp where
 |a|d|c|j|b|h|e|f|g|i
set_option genCtorIdx true in
inductive Bi where
 |a|h|e|d|c|f|i|b|g
set_option genCtorIdx true in
inductive Bm where
 |a|b|d|c|f|g|h|j|i|e
mutual
inductive E where
 |y|A (b:bC)|d (i:aU)|h (s:Tx)
 |v (i:aB)
 |g (i:aB)
 |n (op:TF) (a b:E)
 |M (a:E)
 |G (a:E)
 |q (op:COp) (a b:E)
 |N (o1 o2:COp) (a b c:E)
 |B (es:Es)
 |I (es:Es)
 |L (c a b:E)
 |u (f:aB) (as:Es)
 |Q (c:aB) (as:Es)
 |w (o:E) (f:aB) (as:Es)
 |r (b:Bi) (as:Es)
 |t (o:E) (m:Bm) (as:Es)
 |D (o:E) (x:At)
 |l (o i:E)
 |H (o:E) (lo hi:Eo)
 |p (as:Es)
 |z (as:Es)
 |R
  |P (m j:aB) (src:E)
  |K (cap:aB) (src:E)
  |O (src:E)
  |J (f:aB) (k:aU) (src:E)
  |F (src:E)
inductive Es where
 |b
 |a (e:E) (es:Es)
inductive Eo where
 |f
 |c (e:E)
end
mutual
inductive S where
 |oM (e:E)
 |rA (i:aB) (e:E)
 |FK (is:ao aB) (e:E)
 |rz (o:E) (x:At) (e:E)
 |yw (o i e:E)
 |qN (o lo hi e:E)
 |Sw (i:aB) (op:TF) (e:E)
 |rC (o:E) (x:At) (op:TF) (e:E)
 |yx (o i:E) (op:TF) (e:E)
 |tQ (o lo:E)
 |vj (c:E) (a b:Ss)
 |Lu (c:E) (b:Ss)
 |DC (i:aB) (src:E) (b:Ss)
 |FL (is:ao aB) (src:E) (b:Ss)
 |CF (e:E)
 |wb (e:E)
 |Pu
 |FN
 |yv (b:Ss) (i:aB) (c:E)
 |Pt (q src:E)
inductive Ss where
 |b
 |a (s:S) (ss:Ss)
end
inductive Fl where
 |a|c|d|b (v:AV)
abbrev Ev:=aB->aJ AV
noncomputable def bu (e:Ev)(i:aB)(v:AV):Ev:=λj=>kr (aM j i) (ah v) (e j)
noncomputable def uV (e:Ev):ao aB->ao AV->Ev
 |i::b,v::a=>uV (bu e i v) b a
 |_,_=>e
noncomputable def bT:Tx->Tx->bC
 |[],[]=>ax
 |a::l,b::r=>aM a b&&bT l r
 |_,_=>aw
noncomputable def d0 (c:aB):ao aB->bC
 |[]=>aw
 |d::r=>aM c d||d0 c r
mutual
noncomputable def xP:AV->AV->aJ bC
 |.h,.h=>ah ax
 |.g a,.g b=>ah (a==b)
 |.d a,.d b=>ah (bg (a=b))
 |.d _,.c _=>ah aw
 |.c a,.c b=>ah (bT a b)
 |.f _,.c _=>ah aw
 |.f a,.f b=>si a b
 |_,_=>aq
noncomputable def si:ao AV->ao AV->aJ bC
 |[],[]=>ah ax
 |[],_::_=>ah aw
 |_::_,[]=>ah aw
 |a::d,b::c=>match xP a b,si d c with
  |some x,ah y=>ah (x&&y)
  |_,_=>aq
end
noncomputable def AV.m:AV->aB
 |.f a=>Cz a+1
 |_=>0
where Cz:ao AV->aB
 |[]=>0
 |x::r=>vV x.m (Cz r)
noncomputable def cF (x:Tx):ao AV->bC
 |.c y::r=>bT x y||cF x r
 |_=>aw
noncomputable def jq:ao AV->bC
 |[]=>ax
 |.c _::r=>jq r
 |_=>aw
noncomputable def iz:ao AV->aJ bC
 |[]=>ah aw
 |.h::r=>(iz r).d λz=>ax
 |.d _::r=>iz r
 |_::_=>aq
abbrev QV:=AV->a8->Prop
abbrev QX:=a8->Prop
noncomputable abbrev CQ (e:Ev)(i:aB)(P:AV->Prop):Prop:=match e i with
 |some a=>P a
 |aq=>cR
noncomputable abbrev v8 (v:AV)(A B:Prop):Prop:=match v with
 |.g ax=>A
 |.g aw=>B
 |_=>cR
noncomputable abbrev Dx (v:AV)(P:bC->Prop):Prop:=match v with
 |.g b=>P b
 |_=>cR
noncomputable abbrev jn (v:AV)(P:aU->Prop):Prop:=match v with
 |.d b=>P b
 |_=>cR
noncomputable abbrev CT (v:AV)(P:ao AV->Prop):Prop:=match v with
 |.f b=>P b
 |_=>cR
noncomputable abbrev pA (v:AV)(P:Tx->Prop):Prop:=match v with
 |.c b=>P b
 |_=>cR
noncomputable abbrev Bj (v:Tx)(P:aB->Prop):Prop:=match v with
 |[b]=>P b
 |_=>cR
noncomputable abbrev tB (v:AV)(P:aB->Prop):Prop:=match v with
 |.e b=>P b
 |_=>cR
noncomputable abbrev sP (b:bC)(P:Prop):Prop:=match b with
 |true=>P
 |false=>cR
noncomputable abbrev lh {a:Type}(o:aJ a)(P:a->Prop):Prop:=match o with
 |some x=>P x
 |aq=>cR
@[irreducible] noncomputable def kL (r:aB) (σ:a8) (P:ao AV->Prop):Prop:=∃l,σ[r]?=ah (.a l)/\P l
@[irreducible] noncomputable def IU (r:aB) (σ:a8) (P:ao (Tx×AV)->Prop):Prop:=∃l,σ[r]?=ah (.d l)/\P l
@[irreducible] noncomputable def Fu (x:Tx) (r:aB) (σ:a8) (P:bC->Prop):Prop:=(∃l,σ[r]?=ah (.a l)/\jq l=ax/\P (cF x l))\/(∃a,σ[r]?=ah (.d a)/\P (a.j x).kI)
noncomputable def Ze (a b:AV)(Q:bC->Prop):Prop:=lh (xP a b) λr=>sP (bM a.m 100) (Q r)
noncomputable def Zy (a b:AV)(σ:a8)(Q:QV):Prop:=match a with
 |.d a=>jn b λb=>Q (.d (a+b)) σ
 |.c a=>pA b λb=>a.a+b.a<=gL/\Q (.c (a++b)) σ
 |.e r=>tB b λd=>kL r σ λl=>kL d σ λc=>l.a+c.a<=gL/\Q (.e σ.a) (σ++[.a (l++c)])
 |.f l=>CT b λc=>l.a+c.a<=gL/\Q (.f (l++c)) σ
 |_=>cR
noncomputable def YO (a b:AV)(σ:a8)(Q:QV):Prop:=match a with
 |.d a=>jn b λb=>a.o<2 ^ 1000/\b.o<2 ^ 1000/\Q (.d (a*b)) σ
 |.e r=>jn b λn=>kL r σ λl=>∃i,l=[.d i]/\0<=n/\n<=(gL:aU)/\Q (.e σ.a) (σ++[.a (cZ n.p (.d i))])
 |_=>cR
noncomputable def Lj (c:TF)(a b:AV)(σ:a8)(Q:QV):Prop:=match c with
 |.a=>Zy a b σ Q
 |.c=>jn a λa=>jn b λb=>Q (.d (a-b)) σ
 |.d=>YO a b σ Q
 |.e=>jn a λa=>jn b λb=>b≠0/\b.o<2 ^ 1000/\Q (.d (a.lD b)) σ
 |.b=>jn a λa=>jn b λb=>b≠0/\b.o<2 ^ 1000/\Q (.d (a.fmod b)) σ
 |.f=>jn a λa=>jn b λb=>b=1/\Q (.d (a.fmod 2)) σ
noncomputable def yk (e:TF)(a b:AV)(σ:a8)(Q:QV):Prop:=match e with
 |.a=>(match a with
  |.e r=>tB b λc=>kL r σ λl=>kL c σ λd=>r≠c/\l.a+d.a<=gL/\Q (.e r) (σ.w r (.a (l++d)))
  |.d a=>jn b λb=>Q (.d (a+b)) σ
  |_=>cR)
 |.c=>jn a λa=>jn b λb=>Q (.d (a-b)) σ
 |_=>cR
noncomputable def inW (a b:AV)(σ:a8)(Q:bC->Prop):Prop:=match b with
 |.f l=>pA a λx=>sP (jq l) (Q (cF x l))
 |.j l=>pA a λx=>sP (jq l) (Q (cF x l))
 |.c l=>pA a λx=>Bj x λc=>Q (d0 c l)
 |.e o=>(match a with
  |.c x=>Fu x o σ Q
  |.h=>kL o σ λl=>lh (iz l) Q
  |_=>cR)
 |_=>cR
@[irreducible] noncomputable def kT (a:AV) (Q:bC->Prop):Prop:=match a with
 |.h=>Q ax
 |.d _=>Q aw
 |.c _=>Q aw
 |.f _=>Q aw
 |_=>cR
noncomputable def Yv (a:AV)(b:bz)(Q:bC->Prop):Prop:=match a,b with
 |.l (.v a),.v b=>Q (a==b)
 |_,_=>cR
noncomputable def isW (a b:AV)(Q:bC->Prop):Prop:=match b with
 |.h=>kT a Q
 |.l v=>Yv a v Q
 |_=>cR
noncomputable def Kt (a b:AV)(Q:aU->aU->Prop):Prop:=jn a λa=>jn b λb=>Q a b
noncomputable def FH (e:COp)(a b:AV)(σ:a8)(Q:bC->Prop):Prop:=match e with
 |.a=>Ze a b Q
 |.d=>Ze a b λr=>Q (!r)
 |.c=>Kt a b λa b=>Q (bg (a<b))
 |.j=>Kt a b λa b=>Q (bg (a<=b))
 |.b=>Kt a b λa b=>Q (bg (a>b))
 |.h=>Kt a b λa b=>Q (bg (a ≥ b))
 |.e=>inW a b σ Q
 |.f=>inW a b σ λr=>Q (!r)
 |.g=>isW a b Q
 |.i=>(match b with
  |.h=>kT a λr=>Q (!r)
  |.g c=>Dx a λd=>Q (!(d==c))
  |_=>cR)
noncomputable def lZ (i:aU)(n:aB):aJ aB:=
 if 0<=i then (if i<n then ah i.p else aq) else (if 0<=i+n then ah (i+n).p else aq)
noncomputable def atW (l:ao AV)(i:AV)(Q:AV->Prop):Prop:=jn i λi=>lh (lZ i l.a) λk=>lh l[k]? Q
noncomputable def qI (o i:AV)(σ:a8)(Q:AV->Prop):Prop:=match o with
 |.e r=>(match i with
  |.d i=>kL r σ λl=>lh (lZ i l.a) λk=>lh l[k]? Q
  |.c x=>IU r σ λa=>lh (a.j x) Q
  |_=>cR)
 |.f l=>atW l i Q
 |.j l=>atW l i Q
 |.c l=>jn i λi=>lh (lZ i l.a) λk=>lh l[k]? λx=>Q (.c [x])
 |_=>cR
noncomputable def OO:aJ AV->aJ aB
 |aq=>ah 0
 |some (.d i)=>if 0<=i then ah i.p else aq
 |_=>aq
noncomputable def OV (n:aB):aJ AV->aJ aB
 |aq=>ah n
 |some (.d i)=>if 0<=i then ah i.p else aq
 |_=>aq
noncomputable def xh {a:Type}(l:ao a)(b c:aB):ao a:=(l.K c).m b
noncomputable def Fc (o:AV)(c d:aJ AV)(σ:a8)(Q:QV):Prop:=match o with
 |.c l=>lh c λa=>lh d λb=>jn a λa=>jn b λb=>0<=a/\a<=b/\Q (.c (xh l a.p b.p)) σ
 |.f l=>(match d with
  |aq=>lh c λa=>jn a λa=>1<=a/\a<=l.a/\Q (.f (l.m a.p)) σ
  |some _=>cR)
 |.e r=>kL r σ λl=>lh (OO c) λa=>lh (OV l.a d) λb=>Q (.e σ.a) (σ++[.a (xh l a b)])
 |_=>cR
noncomputable def dc (a b st:aU):ao aU:=
 if st=1 then (ew (b-a).p).d λ(k:aB)=>a+(k:aU)
 else if st=-1 then (ew (a-b).p).d λ(k:aB)=>a-(k:aU) else []
noncomputable def cU (i:aU):Tx:=(toString i).u.d z8
noncomputable def eE (c:aB):bC:=48<=c&&c<=57
noncomputable def Uj (c:aB):bC:=65<=c&&c<=90
noncomputable def YV (c:aB):bC:=97<=c&&c<=122
noncomputable def gP (c:aB):bC:=Uj c||YV c
noncomputable def tE (c:aB):aB:=if Uj c then c+32 else c
noncomputable def ma (l:Tx):aB:=l.foldl (λn c=>10*n+(c-48)) 0
noncomputable def An (c:aB)(l:Tx)(i:aB):aU:=
 match (l.m i).ng (·==c) with
 |some k=>(i+k:aB)
 |aq=>-1
noncomputable def sH:Tx->Tx->bC
 |[],_=>ax
 |_::_,[]=>aw
 |a::d,b::c=>aM a b&&sH d c
noncomputable def gk (a b:Tx):aB->Tx->Tx
 |_,[]=>[]
 |0,c::l=>(match sH a (c::l) with
  |true=>b++gk a b (a.a-1) l
  |false=>c::gk a b 0 l)
 |k+1,_::l=>gk a b k l
noncomputable def ct (a b l:Tx):Tx:=gk a b 0 l
noncomputable def eN (a:Tx):ao Tx->Tx
 |[]=>[]
 |[x]=>x
 |x::r=>x++a++eN a r
noncomputable def p7:ao AV->aJ (ao Tx)
 |[]=>ah []
 |.c s::r=>(p7 r).d (s::·)
 |_::_=>aq
noncomputable def YS (v:AV)(σ:a8)(Q:QV):Prop:=match v with
 |.e r=>kL r σ λl=>Q (.d l.a) σ
 |.c s=>Q (.d s.a) σ
 |.f l=>Q (.d l.a) σ
 |.j l=>Q (.d l.a) σ
 |.k a b c=>(c=1\/c=-1)/\(dc a b c).a<=gL/\Q (.d (dc a b c).a) σ
 |_=>cR
noncomputable def Ka (v:AV)(σ:a8)(Q:QV):Prop:=match v with
 |.g b=>Q (.d (if b then 1 else 0)) σ
 |.c s=>s≠[]/\s.a<=600/\s.oG eE=ax/\Q (.d (ma s)) σ
 |_=>cR
noncomputable def Zt (b:Bi)(v:AV)(σ:a8)(Q:QV):Prop:=match b with
 |.a=>YS v σ Q
 |.h=>(match v with
  |.d i=>i.o<2 ^ 100/\Q (.c (cU i)) σ
  |.c s=>Q (.c s) σ
  |_=>cR)
 |.e=>Ka v σ Q
 |.d=>jn v λi=>Q (.d i.o) σ
 |.c=>jn v λa=>a.o<=gL/\Q (.k 0 a 1) σ
 |.b=>tB v λr=>kL r σ λl=>Q (.f l) σ
 |.g=>(match v with
  |.d _=>Q (.l (.v "int")) σ
  |.f _=>Q (.l (.v "tuple")) σ
  |_=>cR)
 |_=>cR
noncomputable def Zs (b:Bi)(v w:AV)(σ:a8)(Q:QV):Prop:=jn v λx=>jn w λy=>match b with
 |.c=>x.o<=n9/\y.o<=n9/\Q (.k x y 1) σ
 |.f=>Q (.d (jd x y)) σ
 |.i=>Q (.d (vV x y)) σ
 |_=>cR
noncomputable def Zr (b:Bi)(u v w:AV)(σ:a8)(Q:QV):Prop:=match b with
 |.c=>jn u λa=>jn v λb=>jn w λc=>a.o<=n9/\b.o<=n9/\c=-1/\Q (.k a b c) σ
 |_=>cR
noncomputable def biW (b:Bi)(vs:ao AV)(σ:a8)(Q:QV):Prop:=match vs with
 |[u]=>Zt b u σ Q
 |[u,v]=>Zs b u v σ Q
 |[u,v,w]=>Zr b u v w σ Q
 |_=>cR
noncomputable def Zp (m:Bm)(v:AV)(σ:a8)(Q:QV):Prop:=match m with
 |.b=>tB v λr=>kL r σ λa=>∃l x,a=l++[x]/\Q x (σ.w r (.a l))
 |.d=>pA v λs=>Bj s λc=>Q (.g (cL c 128)) σ
 |.c=>pA v λs=>Bj s λc=>sP (cL c 128) (Q (.g (gP c)) σ)
 |.f=>pA v λs=>Bj s λc=>sP (cL c 128) (Q (.g (gP c||eE c)) σ)
 |.g=>pA v λs=>Bj s λc=>sP (cL c 128) (Q (.g (eE c)) σ)
 |.h=>pA v λs=>(∀c∈s,c<128)/\Q (.c (s.d tE)) σ
 |_=>cR
noncomputable def Zo (m:Bm)(v x:AV)(σ:a8)(Q:QV):Prop:=match m with
 |.a=>tB v λr=>kL r σ λl=>l.a<gL/\Q .h (σ.w r (.a (l++[x])))
 |.e=>pA v λs=>tB x λr=>kL r σ λl=>∃a,p7 l=ah a/\(a.d cC).sum+a.a*s.a<=gL/\Q (.c (eN s a)) σ
 |_=>cR
noncomputable def Zn (m:Bm)(v x y:AV)(σ:a8)(Q:QV):Prop:=match m with
 |.j=>pA v λs=>pA x λt=>Bj t λc=>jn y λi=>0<=i/\i<=s.a/\Q (.d (An c s i.p)) σ
 |.i=>pA v λs=>pA x λa=>pA y λb=>a≠[]/\a≠b/\s.a+(s.a+1)*b.a<=gL/\Q (.c (ct a b s)) σ
 |_=>cR
noncomputable def Zm (m:Bm)(v:AV)(vs:ao AV)(σ:a8)(Q:QV):Prop:=match vs with
 |[]=>Zp m v σ Q
 |[x]=>Zo m v x σ Q
 |[x,y]=>Zn m v x y σ Q
 |_=>cR
noncomputable def Lh (m:Bm)(v:AV)(σ:a8)(P:Prop):Prop:=match v with
 |.e r=>(match m with
  |.a|.b=>kL r σ λz=>P
  |_=>cR)
 |.c _=>(match m with
  |.a|.b=>cR
  |_=>P)
 |_=>cR
noncomputable def Fs:AV->bC
 |.l _=>aw
 |_=>ax
@[irreducible] noncomputable def p9 (v:AV) (x:At) (σ:a8) (Q:AV->Prop):Prop:=∃r c b a,v=.e r/\σ[r]?=ah (.b c b)/\b.j x=ah a/\Fs a=ax/\Q a
noncomputable def zL (x:At)(v:AV):ao (At×AV)->ao (At×AV)
 |[]=>[(x,v)]
 |(y,w)::r=>if y=x then (y,v)::r else (y,w)::zL x v r
@[irreducible] noncomputable def lO (v:AV) (x:At) (a:AV) (σ:a8) (Q:QX):Prop:=∃r c b,v=.e r/\σ[r]?=ah (.b c b)/\Q (σ.w r (.b c (zL x a b)))
noncomputable def xR (x:Tx)(v:AV):ao (Tx×AV)->ao (Tx×AV)
 |[]=>[(x,v)]
 |(y,w)::r=>kr (bT y x) ((y,v)::r) ((y,w)::xR x v r)
noncomputable def mr (o i v:AV)(σ:a8)(Q:QX):Prop:=tB o λr=>match i with
 |.d i=>kL r σ λl=>lh (lZ i l.a) λk=>Q (σ.w r (.a (l.w k v)))
 |.c x=>IU r σ λa=>a.a<gL/\Q (σ.w r (.d (xR x v a)))
 |_=>cR
noncomputable def Af (o e f v:AV)(σ:a8)(Q:QX):Prop:=tB o λr=>jn e λa=>jn f λb=>tB v λc=>kL r σ λl=>kL c σ λd=>r≠c/\a=b/\0<=a/\a<=l.a/\l.a+d.a<=gL/\Q (σ.w r (.a (l.K a.p++d++l.m a.p)))
noncomputable def Dv (o b:AV)(σ:a8)(Q:QX):Prop:=tB o λr=>jn b λa=>kL r σ λl=>0<=a/\a<=l.a/\Q (σ.w r (.a (l.K a.p)))
noncomputable def oJ (m j:aB):ao AV->aJ (ao AV)
 |[]=>ah []
 |.f a::r=>(match aM a.a m,a[j]? with
  |true,ah y=>(oJ m j r).d (y::·)
  |_,_=>aq)
 |_::_=>aq
abbrev fk:=aB->ao AV->a8->QV->QX->Prop
structure dt where
 b:aB->aJ AV
 c:aB->aJ aB
 a:aB->aJ aB
noncomputable def DA:ao AV->bC
 |[]=>ax
 |.d _::r=>DA r
 |_=>aw
noncomputable def Kw (C:fk)(f:aB)(k:aU)(r:aB):ao AV->a8->QX->Prop
 |[],b,Q=>Q b
 |x::l,b,Q=>C f [x,.d k] b (λv a=>kL r a λc=>c.a<gL/\Kw C f k r l (a.w r (.a (c++[v]))) Q) (λz=>cR)
section
variable (T:dt)(C:fk)
@[irreducible] noncomputable def hY (f:aB) (v:AV) (σ:a8) (P:aB->Prop):Prop:=∃r c a,v=.e r/\σ[r]?=ah (.b c a)/\T.a f=ah c/\P r
mutual
noncomputable def ey:E->Ev->a8->QV->QX->Prop
 |.y,_,h,Q,_=>Q .h h
 |.A b,_,h,Q,_=>Q (.g b) h
 |.d i,_,h,Q,_=>Q (.d i) h
 |.h s,_,h,Q,_=>Q (.c s) h
 |.v i,e,h,Q,_=>CQ e i λa=>Q a h
 |.g i,_,h,Q,_=>lh (T.b i) λa=>Q a h
 |.n B a b,e,h,Q,X=>ey a e h (λy d=>ey b e d (λz g=>Lj B y z g Q) X) X
 |.M a,e,h,Q,X=>ey a e h (λy d=>jn y λi=>Q (.d (-i)) d) X
 |.G a,e,h,Q,X=>ey a e h (λy d=>Dx y λb=>Q (.g (!b)) d) X
 |.q B a b,e,h,Q,X=>ey a e h (λy d=>ey b e d (λz g=>FH B y z g λr=>Q (.g r) g) X) X
 |.N N M a b c,e,h,Q,X=>ey a e h (λy d=>ey b e d (λz g=>FH N y z g λr=>v8 (.g r) (ey c e g (λA p=>FH M z A p λr=>Q (.g r) p) X) (Q (.g aw) g)) X) X
 |.B D,e,h,Q,X=>Pp D e h Q X
 |.I D,e,h,Q,X=>Pm D e h Q X
 |.L c a b,e,h,Q,X=>ey c e h (λA d=>v8 A (ey a e d Q X) (ey b e d Q X)) X
 |.u f u,e,h,Q,X=>lQ u e h (λn d=>T.a f=aq/\C f n d Q X) X
 |.Q c u,e,h,Q,X=>lQ u e h (λn d=>∃f,T.c c=ah f/\T.a f=ah c/\C f (.e d.a::n) (d++[.b c []]) (λr g=>r=.h/\Q (.e d.a) g) X) X
 |.w o f u,e,h,Q,X=>ey o e h (λw d=>hY T f w d λr=>lQ u e d (λn g=>C f (.e r::n) g Q X) X) X
 |.r b u,e,h,Q,X=>lQ u e h (λn d=>biW b n d Q) X
 |.t o m u,e,h,Q,X=>ey o e h (λw d=>Lh m w d (lQ u e d (λn g=>Zm m w n g Q) X)) X
 |.D o x,e,h,Q,X=>ey o e h (λw d=>p9 w x d λv=>Q v d) X
 |.l o i,e,h,Q,X=>ey o e h (λw d=>ey i e d (λI g=>qI w I g λv=>Q v g) X) X
 |.H o O P,e,h,Q,X=>ey o e h (λw d=>U9 O e d (λH g=>U9 P e g (λJ p=>Fc w H J p Q) X) X) X
 |.p u,e,h,Q,X=>lQ u e h (λn d=>sP (bM n.a gL) (Q (.f n) d)) X
 |.z u,e,h,Q,X=>lQ u e h (λn d=>sP (bM n.a gL) (Q (.e d.a) (d++[.a n]))) X
 |.R,_,h,Q,_=>Q (.e h.a) (h++[.d []])
 |.P m j q,e,h,Q,X=>ey q e h (λn d=>CT n λl=>lh (oJ m j l) λG=>Q (.e d.a) (d++[.a G])) X
 |.K F q,e,h,Q,X=>ey q e h (λn d=>tB n λr=>kL r d λl=>CQ e F λa=>Q (.e d.a) (d++[.a (l.d λx=>.f [x,a])])) X
 |.O q,e,h,Q,X=>ey q e h (λn d=>tB n λr=>kL r d λl=>lh (p7 l) λL=>Q (.e d.a) (d++[.a ((L.ke λt=>!bT t []).d .c)])) X
 |.J f k q,e,h,Q,X=>ey q e h (λn d=>CT n λl=>T.a f=aq/\Kw C f k d.a l (d++[.a []]) (Q (.e d.a))) X
 |.F q,e,h,Q,X=>ey q e h (λn d=>match n with
  |.k a b c=>c=-1/\(∀i∈dc a b c,i.o<2 ^ 100)/\(dc a b c).a<=gL/\Q (.e d.a) (d++[.a ((dc a b c).d λi=>.d (i*i))])
  |_=>cR) X
noncomputable def lQ:Es->Ev->a8->(ao AV->a8->Prop)->QX->Prop
 |.b,_,d,Q,_=>Q [] d
 |.a a h,e,d,Q,X=>ey a e d (λg c=>lQ h e c (λf b=>Q (g::f) b) X) X
noncomputable def U9:Eo->Ev->a8->(aJ AV->a8->Prop)->QX->Prop
 |.f,_,c,Q,_=>Q aq c
 |.c a,e,c,Q,X=>ey a e c (λd b=>Q (ah d) b) X
noncomputable def Pp:Es->Ev->a8->QV->QX->Prop
 |.b,_,_,_,_=>cR
 |.a a .b,e,d,Q,X=>ey a e d (λf c=>Dx f λb=>Q (.g b) c) X
 |.a a g,e,d,Q,X=>ey a e d (λf c=>v8 f (Pp g e c Q X) (Q (.g aw) c)) X
noncomputable def Pm:Es->Ev->a8->QV->QX->Prop
 |.b,_,_,_,_=>cR
 |.a a .b,e,d,Q,X=>ey a e d (λf c=>Dx f λb=>Q (.g b) c) X
 |.a a g,e,d,Q,X=>ey a e d (λf c=>v8 f (Q (.g ax) c) (Pm g e c Q X)) X
end
abbrev QF:=Fl->Ev->a8->Prop
abbrev XS:=Ev->a8->Prop
noncomputable def qm (c:Ev->a8->QV->QX->Prop)(b:Ev->a8->QF->XS->Prop):aB->Ev->a8->QF->XS->Prop
 |0,_,_,_,_=>cR
 |k+1,e,h,Q,X=>c e h (λr d=>v8 r (b e d (λf g a=>match f with
   |.a|.d=>qm c b k g a Q X
   |.c=>Q .a g a
   |.b v=>Q (.b v) g a) X) (Q .a e d)) (X e)
noncomputable def jg (h:Ev->AV->(Ev->Prop)->Prop)(b:Ev->a8->QF->XS->Prop):ao AV->Ev->a8->QF->XS->Prop
 |[],e,d,Q,_=>Q .a e d
 |x::r,e,d,Q,X=>h e x λc=>b c d (λf g a=>match f with
   |.a|.d=>jg h b r g a Q X
   |.c=>Q .a g a
   |.b v=>Q (.b v) g a) X
noncomputable def tG:AV->aJ (ao AV)
 |.f l=>ah l
 |.k a b c=>if c=1\/c=-1 then ah ((dc a b c).d .d) else aq
 |_=>aq
noncomputable def Ph:E->aJ AV
 |.A b=>ah (.g b)
 |.h s=>ah (.c s)
 |_=>aq
noncomputable def CX (i:aB):Ev->AV->(Ev->Prop)->Prop:=λe x Q=>Q (bu e i x)
noncomputable def CW (b:ao aB):Ev->AV->(Ev->Prop)->Prop:=λe x Q=>match x with
 |.f a=>sP (aM a.a b.a) (Q (uV e b a))
 |_=>cR
mutual
noncomputable def X4:S->Ev->a8->QF->XS->Prop
 |.oM a,e,h,Q,X=>ey T C a e h (λ_ d=>Q .a e d) (X e)
 |.rA i a,e,h,Q,X=>ey T C a e h (λv d=>Q .a (bu e i v) d) (X e)
 |.FK z a,e,h,Q,X=>ey T C a e h (λv d=>CW z e v λq=>Q .a q d) (X e)
 |.rz o x a,e,h,Q,X=>ey T C a e h (λv d=>ey T C o e d (λn f=>lO n x v f λg=>Q .a e g) (X e)) (X e)
 |.yw o i a,e,h,Q,X=>ey T C a e h (λv d=>ey T C o e d (λn f=>ey T C i e f (λt g=>mr n t v g λj=>Q .a e j) (X e)) (X e)) (X e)
 |.qN o y D a,e,h,Q,X=>ey T C a e h (λv d=>ey T C o e d (λn f=>ey T C y e f (λu g=>ey T C D e g (λA j=>Af n u A v j λm=>Q .a e m) (X e)) (X e)) (X e)) (X e)
 |.Sw i s a,e,h,Q,X=>CQ e i λp=>ey T C a e h (λv d=>yk s p v d λw f=>Q .a (bu e i w) f) (X e)
 |.rC o x s a,e,h,Q,X=>ey T C o e h (λn d=>p9 n x d λp=>ey T C a e d (λv f=>yk s p v f λw g=>lO n x w g λj=>Q .a e j) (X e)) (X e)
 |.yx o i s a,e,h,Q,X=>ey T C o e h (λn d=>ey T C i e d (λt f=>qI n t f λp=>ey T C a e f (λv g=>yk s p v g λw j=>mr n t w j λm=>Q .a e m) (X e)) (X e)) (X e)
 |.tQ o y,e,h,Q,X=>ey T C o e h (λn d=>ey T C y e d (λu f=>Dv n u f λg=>Q .a e g) (X e)) (X e)
 |.vj c a b,e,h,Q,X=>ey T C c e h (λB d=>v8 B (di a e d Q X) (di b e d Q X)) (X e)
 |.Lu c b,e,h,Q,X=>∃k,qm (ey T C c) (di b) k e h Q X
 |.DC i r b,e,h,Q,X=>ey T C r e h (λv d=>lh (tG v) λl=>jg (CX i) (di b) l e d Q X) (X e)
 |.FL z r b,e,h,Q,X=>ey T C r e h (λv d=>lh (tG v) λl=>jg (CW z) (di b) l e d Q X) (X e)
 |.CF a,e,h,Q,X=>ey T C a e h (λv d=>Q (.b v) e d) (X e)
 |.wb a,e,h,_,X=>ey T C a e h (λ_ d=>X e d) (X e)
 |.Pu,e,h,Q,_=>Q .c e h
 |.FN,e,h,Q,_=>Q .d e h
 |.yv b i c,e,h,Q,X=>lh (Ph c) λv=>di b e h Q (λq d=>Q .a (bu q i v) d)
 |.Pt _ _,_,_,_,_=>cR
noncomputable def di:Ss->Ev->a8->QF->XS->Prop
 |.b,e,c,Q,_=>Q .a e c
 |.a s .b,e,c,Q,X=>X4 s e c Q X
 |.a s d,e,c,Q,X=>X4 s e c (λf b a=>match f with
   |.a=>di d b a Q X
   |f=>Q f b a) X
end
end
structure cO where
 b:aB
 a:Ss
noncomputable def bp (T:dt)(D:aB->aJ cO):aB->fk
 |0=>λz z z z z=>cR
 |n+1=>λf b c Q X=>∃d,D f=ah d/\b.a=d.b/\
   di T (bp T D n) d.a (λi=>b[i]?) c (λe z a=>match e with
    |.b v=>Q v a
    |.a=>Q .h a
    |_=>cR) (λz a=>X a)
noncomputable def Ac:Ss->Ss->Ss
 |.b,b=>b
 |.a s a,b=>.a s (Ac a b)
noncomputable def z9 (q a:E):Ss:=.a (.Pt q a) (.a (.CF (.A ax)) .b)
noncomputable def OQ (T:dt)(D:aB->aJ cO)(n k:aB)(vs:ao AV):Prop:=∃d a q c,D k=ah ⟨d,Ac a (z9 q c)⟩/\vs.a=d/\
 di T (bp T D n) a (λi=>vs[i]?) [] (λg e f=>match g with
  |.b v=>v=.g ax
  |.a=>ey T (bp T D n) q e f (λv b=>v8 v (ey T (bp T D n) c e b (λw z=>CT w λl=>DA l=ax) (λz=>cR)) True) (λz=>cR)
  |_=>cR) (λz z=>cR)
theorem vf {A B C:Prop}{G:Prop}(h:A/\B/\C)(k:A->B->C->G):G:=k h.1 h.2.1 h.2.2
theorem Bz {A B C D:Prop}{G:Prop}(h:A/\B/\C/\D)(k:A->B->C->D->G):G:=k h.1 h.2.1 h.2.2.1 h.2.2.2
theorem acJ {A B C D a F:Prop}{G:Prop}(h:A/\B/\C/\D/\a/\F)(k:A->B->C->D->a->F->G):G:=k h.1 h.2.1 h.2.2.1 h.2.2.2.1 h.2.2.2.2.1 h.2.2.2.2.2
theorem acI {A B C D a F H:Prop}{G:Prop}(h:A/\B/\C/\D/\a/\F/\H)(k:A->B->C->D->a->F->H->G):G:=k h.1 h.2.1 h.2.2.1 h.2.2.2.1 h.2.2.2.2.1 h.2.2.2.2.2.1 h.2.2.2.2.2.2
theorem bf {a:Type}{A B:a->Prop}{G:Prop}(h:∃x,A x/\B x)(k:∀x,A x->B x->G):G:=h.e λx h=>k x h.1 h.2
theorem l8 {a:Type}{A B C:a->Prop}{G:Prop}(h:∃x,A x/\B x/\C x)(k:∀x,A x->B x->C x->G):G:=h.e λx h=>k x h.1 h.2.1 h.2.2
theorem U7 {a:Type}{A B C D:a->Prop}{G:Prop}(h:∃x,A x/\B x/\C x/\D x)(k:∀x,A x->B x->C x->D x->G):G:=h.e λx h=>k x h.1 h.2.1 h.2.2.1 h.2.2.2
theorem K3 {b:Type}{A B C D a:b->Prop}{G:Prop}(h:∃x,A x/\B x/\C x/\D x/\a x)(k:∀x,A x->B x->C x->D x->a x->G):G:=h.e λx h=>k x h.1 h.2.1 h.2.2.1 h.2.2.2.1 h.2.2.2.2
theorem O4 {b a:Type}{A:b->a->Prop}{G:Prop}(h:∃x y,A x y)(k:∀x y,A x y->G):G:=h.e λx h=>h.e λy h=>k x y h
theorem l6 {b a:Type}{A B:b->a->Prop}{G:Prop}(h:∃x y,A x y/\B x y)(k:∀x y,A x y->B x y->G):G:=h.e λx h=>h.e λy h=>k x y h.1 h.2
theorem mO {b a:Type}{A B C:b->a->Prop}{G:Prop}(h:∃x y,A x y/\B x y/\C x y)(k:∀x y,A x y->B x y->C x y->G):G:=h.e λx h=>h.e λy h=>k x y h.1 h.2.1 h.2.2
theorem oh {b a:Type}{A B C D:b->a->Prop}{G:Prop}(h:∃x y,A x y/\B x y/\C x y/\D x y)(k:∀x y,A x y->B x y->C x y->D x y->G):G:=h.e λx h=>h.e λy h=>k x y h.1 h.2.1 h.2.2.1 h.2.2.2
theorem O3 {c b:Type}{A B C D a:c->b->Prop}{G:Prop}(h:∃x y,A x y/\B x y/\C x y/\D x y/\a x y)(k:∀x y,A x y->B x y->C x y->D x y->a x y->G):G:=h.e λx h=>h.e λy h=>k x y h.1 h.2.1 h.2.2.1 h.2.2.2.1 h.2.2.2.2
theorem O2 {c b a:Type}{A:c->b->a->Prop}{G:Prop}(h:∃x y z,A x y z)(k:∀x y z,A x y z->G):G:=h.e λx h=>h.e λy h=>h.e λz h=>k x y z h
theorem K2 {c b a:Type}{A B:c->b->a->Prop}{G:Prop}(h:∃x y z,A x y z/\B x y z)(k:∀x y z,A x y z->B x y z->G):G:=h.e λx h=>h.e λy h=>h.e λz h=>k x y z h.1 h.2
theorem IQ {c b a:Type}{A B C:c->b->a->Prop}{G:Prop}(h:∃x y z,A x y z/\B x y z/\C x y z)(k:∀x y z,A x y z->B x y z->C x y z->G):G:=h.e λx h=>h.e λy h=>h.e λz h=>k x y z h.1 h.2.1 h.2.2
theorem By {c b a:Type}{A B C D:c->b->a->Prop}{G:Prop}(h:∃x y z,A x y z/\B x y z/\C x y z/\D x y z)(k:∀x y z,A x y z->B x y z->C x y z->D x y z->G):G:=h.e λx h=>h.e λy h=>h.e λz h=>k x y z h.1 h.2.1 h.2.2.1 h.2.2.2
theorem Bx {d c b:Type}{A B C D a:d->c->b->Prop}{G:Prop}(h:∃x y z,A x y z/\B x y z/\C x y z/\D x y z/\a x y z)(k:∀x y z,A x y z->B x y z->C x y z->D x y z->a x y z->G):G:=h.e λx h=>h.e λy h=>h.e λz h=>k x y z h.1 h.2.1 h.2.2.1 h.2.2.2.1 h.2.2.2.2
theorem acH {d c b a:Type}{A B:d->c->b->a->Prop}{G:Prop}(h:∃x y z w,A x y z w/\B x y z w)(k:∀x y z w,A x y z w->B x y z w->G):G:=h.e λx h=>h.e λy h=>h.e λz h=>h.e λw h=>k x y z w h.1 h.2
theorem Zb {d c b a:Type}{A B C:d->c->b->a->Prop}{G:Prop}(h:∃x y z w,A x y z w/\B x y z w/\C x y z w)(k:∀x y z w,A x y z w->B x y z w->C x y z w->G):G:=h.e λx h=>h.e λy h=>h.e λz h=>h.e λw h=>k x y z w h.1 h.2.1 h.2.2
theorem U6 {e d c b:Type}{A B C D a:e->d->c->b->Prop}{G:Prop}(h:∃x y z w,A x y z w/\B x y z w/\C x y z w/\D x y z w/\a x y z w)(k:∀x y z w,A x y z w->B x y z w->C x y z w->D x y z w->a x y z w->G):G:=h.e λx h=>h.e λy h=>h.e λz h=>h.e λw h=>k x y z w h.1 h.2.1 h.2.2.1 h.2.2.2.1 h.2.2.2.2
theorem dX {A B C:Prop}(a:A)(b:B)(c:C):A/\B/\C:=⟨a,b,c⟩
theorem fK {A B C D:Prop}(a:A)(b:B)(c:C)(d:D):A/\B/\C/\D:=⟨a,b,c,d⟩
theorem lP {A B C D f:Prop}(a:A)(b:B)(c:C)(d:D)(e:f):A/\B/\C/\D/\f:=⟨a,b,c,d,e⟩
theorem yj {A B C D g F:Prop}(a:A)(b:B)(c:C)(d:D)(e:g)(f:F):A/\B/\C/\D/\g/\F:=⟨a,b,c,d,e,f⟩
theorem acD {A B C D h F H:Prop}(a:A)(b:B)(c:C)(d:D)(e:h)(f:F)(g:H):A/\B/\C/\D/\h/\F/\H:=⟨a,b,c,d,e,f,g⟩
theorem bQ {c:Type}{A B:c->Prop}(x:c)(a:A x)(b:B x):∃x,A x/\B x:=⟨x,a,b⟩
theorem l4 {d:Type}{A B C:d->Prop}(x:d)(a:A x)(b:B x)(c:C x):∃x,A x/\B x/\C x:=⟨x,a,b,c⟩
theorem KU {e:Type}{A B C D:e->Prop}(x:e)(a:A x)(b:B x)(c:C x)(d:D x):∃x,A x/\B x/\C x/\D x:=⟨x,a,b,c,d⟩
theorem U2 {f:Type}{A B C D g:f->Prop}(x:f)(a:A x)(b:B x)(c:C x)(d:D x)(e:g x):∃x,A x/\B x/\C x/\D x/\g x:=⟨x,a,b,c,d,e⟩
theorem U1 {c b:Type}{A:c->b->Prop}(x:c)(y:b)(a:A x y):∃x y,A x y:=⟨x,y,a⟩
theorem fF {d c:Type}{A B:d->c->Prop}(x:d)(y:c)(a:A x y)(b:B x y):∃x y,A x y/\B x y:=⟨x,y,a,b⟩
theorem jf {e d:Type}{A B C:e->d->Prop}(x:e)(y:d)(a:A x y)(b:B x y)(c:C x y):∃x y,A x y/\B x y/\C x y:=⟨x,y,a,b,c⟩
theorem yg {f e:Type}{A B C D:f->e->Prop}(x:f)(y:e)(a:A x y)(b:B x y)(c:C x y)(d:D x y):∃x y,A x y/\B x y/\C x y/\D x y:=⟨x,y,a,b,c,d⟩
theorem U0 {g f:Type}{A B C D h:g->f->Prop}(x:g)(y:f)(a:A x y)(b:B x y)(c:C x y)(d:D x y)(e:h x y):∃x y,A x y/\B x y/\C x y/\D x y/\h x y:=⟨x,y,a,b,c,d,e⟩
theorem UZ {d c b:Type}{A:d->c->b->Prop}(x:d)(y:c)(z:b)(a:A x y z):∃x y z,A x y z:=⟨x,y,z,a⟩
theorem FC {e d c:Type}{A B:e->d->c->Prop}(x:e)(y:d)(z:c)(a:A x y z)(b:B x y z):∃x y z,A x y z/\B x y z:=⟨x,y,z,a,b⟩
theorem KS {f e d:Type}{A B C:f->e->d->Prop}(x:f)(y:e)(z:d)(a:A x y z)(b:B x y z)(c:C x y z):∃x y z,A x y z/\B x y z/\C x y z:=⟨x,y,z,a,b,c⟩
theorem IM {g f e:Type}{A B C D:g->f->e->Prop}(x:g)(y:f)(z:e)(a:A x y z)(b:B x y z)(c:C x y z)(d:D x y z):∃x y z,A x y z/\B x y z/\C x y z/\D x y z:=⟨x,y,z,a,b,c,d⟩
theorem UY {h g f:Type}{A B C D i:h->g->f->Prop}(x:h)(y:g)(z:f)(a:A x y z)(b:B x y z)(c:C x y z)(d:D x y z)(e:i x y z):∃x y z,A x y z/\B x y z/\C x y z/\D x y z/\i x y z:=⟨x,y,z,a,b,c,d,e⟩
theorem acC {g f e d:Type}{A B C:g->f->e->d->Prop}(x:g)(y:f)(z:e)(w:d)(a:A x y z w)(b:B x y z w)(c:C x y z w):∃x y z w,A x y z w/\B x y z w/\C x y z w:=⟨x,y,z,w,a,b,c⟩
theorem acB {h g f e:Type}{A B C D:h->g->f->e->Prop}(x:h)(y:g)(z:f)(w:e)(a:A x y z w)(b:B x y z w)(c:C x y z w)(d:D x y z w):∃x y z w,A x y z w/\B x y z w/\C x y z w/\D x y z w:=⟨x,y,z,w,a,b,c,d⟩
theorem Y9 {i h g f:Type}{A B C D j:i->h->g->f->Prop}(x:i)(y:h)(z:g)(w:f)(a:A x y z w)(b:B x y z w)(c:C x y z w)(d:D x y z w)(e:j x y z w):∃x y z w,A x y z w/\B x y z w/\C x y z w/\D x y z w/\j x y z w:=⟨x,y,z,w,a,b,c,d,e⟩
theorem bU {T:dt}{D:aB->aJ cO}{n f:aB}{vs:ao AV}{σ:a8}{Q:QV}{X:QX}{d:cO}(h:D f=ah d)(l:vs.a=d.b)(q :
  let g:fk:=bp T D n;let e:Ev:=λi=>vs[i]?;let c:QF:=λfl z a=>match fl with
    |.b v=>Q v a
    |.a=>Q .h a
    |_=>cR
  let b:XS:=λz a=>X a
  di T g d.a e σ c b):bp T D (n+1) f vs σ Q X:=⟨d,h,l,q⟩
theorem gl {G:Prop}(h:let g:Prop:=G;g):G:=h
theorem gd {T:dt}{C:fk}{b:Ss}{e:Ev}{σ:a8}{Q:QF}{X:XS}(h:let z:Ev:=e;di T C b z σ Q X):di T C b e σ Q X:=h
theorem mq {T:dt}{C:fk}{b:Ss}{e:Ev}{σ:a8}{Q:QF}{X:XS}(h:let z:QF:=Q;di T C b e σ z X):di T C b e σ Q X:=h
theorem adN {T:dt}{C:fk}{b:Ss}{e:Ev}{σ:a8}{Q:QF}{X:XS}(h:let z:a8:=σ;di T C b e z Q X):di T C b e σ Q X:=h
theorem adP {T:dt}{C:fk}{b:E}{e:Ev}{σ:a8}{Q:QV}{X:QX}(h:let z:QV:=Q;ey T C b e σ z X):ey T C b e σ Q X:=h
theorem ik {e:Ev}{i:aB}{v:AV}(h:e i=ah v):bu e i v=e:=funext λj=>by
 show kr (aM j i) _ _=_;cases q:aM j i with
 |true=>exact aD q▸h.h
 |false=>rfl
@[elab_as_elim] theorem en1 (e:Ev) {G:Ev->Prop} {a:aB} {b:AV} (c:e a=ah b) (k:let z:Ev:=bu e a b;G z):G e:=by
 have k:G (bu e a b):=k;rw [ik c] at k;exact k
@[elab_as_elim] theorem en2 (e:Ev) {G:Ev->Prop} {a:aB} {c:AV} {i1:aB} {b:AV} (f:e a=ah c) (d:e i1=ah b) (k:let z:Ev:=bu (bu e a c) i1 b;G z):G e:=by
 have k:G (bu (bu e a c) i1 b):=k;rw [ik f,ik d] at k;exact k
@[elab_as_elim] theorem en3 (e:Ev) {G:Ev->Prop} {a:aB} {d:AV} {i1:aB} {c:AV} {i2:aB} {b:AV} (h:e a=ah d) (g:e i1=ah c) (f:e i2=ah b) (k:let z:Ev:=bu (bu (bu e a d) i1 c) i2 b;G z):G e:=by
 have k:G (bu (bu (bu e a d) i1 c) i2 b):=k;rw [ik h,ik g,ik f] at k;exact k
@[elab_as_elim] theorem en4 (e:Ev) {G:Ev->Prop} {b:aB} {g:AV} {i1:aB} {f:AV} {i2:aB} {d:AV} {a:aB} {c:AV} (l:e b=ah g) (j:e i1=ah f) (i:e i2=ah d) (h:e a=ah c) (k:let z:Ev:=bu (bu (bu (bu e b g) i1 f) i2 d) a c;G z):G e:=by
 have k:G (bu (bu (bu (bu e b g) i1 f) i2 d) a c):=k;rw [ik l,ik j,ik i,ik h] at k;exact k
@[elab_as_elim] theorem en5 (e:Ev) {G:Ev->Prop} {c:aB} {i:AV} {i1:aB} {h:AV} {i2:aB} {g:AV} {b:aB} {f:AV} {a:aB} {d:AV} (o:e c=ah i) (n:e i1=ah h) (m:e i2=ah g) (l:e b=ah f) (j:e a=ah d) (k:let z:Ev:=bu (bu (bu (bu (bu e c i) i1 h) i2 g) b f) a d;G z):G e:=by
 have k:G (bu (bu (bu (bu (bu e c i) i1 h) i2 g) b f) a d):=k;rw [ik o,ik n,ik m,ik l,ik j] at k;exact k
theorem se {c:Ev->a8->QV->QX->Prop}{b:Ev->a8->QF->XS->Prop}{k:aB}{e:Ev}{σ:a8}{Q:QF}{X:XS}(h:let z:QF:=λf g a=>match f with
   |.a|.d=>qm c b k g a Q X
   |.c=>Q .a g a
   |.b v=>Q (.b v) g a
  c e σ (λr d=>v8 r (b e d z X) (Q .a e d)) (X e)):qm c b (k+1) e σ Q X:=h
universe u
@[elab_as_elim] theorem aA {c:Sort u} {a b:c} {p:c->Prop} (h:a=b) (x:p b):p a:=h▸x
@[elab_as_elim] theorem dw {c:Sort u} {a b:c} {p:c->Prop} (h:b=a) (x:p b):p a:=h▸x
theorem geS {a n:aB}{G:aB->Prop}(h:a+1<=n)(k:∀m,a<=m->G (m+1)):G n:=match n,h with
 |m+1,h=>k m (aY h)
@[elab_as_elim] theorem oE {a n:aB} {G:aB->Prop} (h:a+1<=n) (k:∀m,a<=m->G (m+1)):G n:=geS h k
theorem u6 {n m:aB}{G:aB->Prop}(h:n<m+1)(a:n<m->G n)(b:G m):G n:=(Nat.lt_or_eq_of_le (lg h)).e a λe=>e▸b
@[elab_as_elim] theorem lt2 {n:aB} {G:aB->Prop} (h:n<2) (a:G 0) (b:G 1):G n:=u6 h (λh=>u6 h (λh=>bZ h (fL _)) a) b
@[elab_as_elim] theorem lt3 {n:aB} {G:aB->Prop} (h:n<3) (a:G 0) (b:G 1) (c:G 2):G n:=u6 h (λh=>u6 h (λh=>u6 h (λh=>bZ h (fL _)) a) b) c
@[elab_as_elim] theorem YQ {n:aB} {G:aB->Prop} (h:n<4) (a:G 0) (b:G 1) (c:G 2) (d:G 3):G n:=u6 h (λh=>u6 h (λh=>u6 h (λh=>u6 h (λh=>bZ h (fL _)) a) b) c) d
@[elab_as_elim] theorem lt5 {n:aB} {G:aB->Prop} (h:n<5) (a:G 0) (b:G 1) (c:G 2) (d:G 3) (e:G 4):G n:=u6 h (λh=>u6 h (λh=>u6 h (λh=>u6 h (λh=>u6 h (λh=>bZ h (fL _)) a) b) c) d) e
@[elab_as_elim] theorem lt6 {n:aB} {G:aB->Prop} (h:n<6) (a:G 0) (b:G 1) (c:G 2) (d:G 3) (e:G 4) (f:G 5):G n:=u6 h (λh=>u6 h (λh=>u6 h (λh=>u6 h (λh=>u6 h (λh=>u6 h (λh=>bZ h (fL _)) a) b) c) d) e) f
@[elab_as_elim] theorem X5 {n:aB} {G:aB->Prop} (h:n<7) (a:G 0) (b:G 1) (c:G 2) (d:G 3) (e:G 4) (f:G 5) (g:G 6):G n:=u6 h (λh=>u6 h (λh=>u6 h (λh=>u6 h (λh=>u6 h (λh=>u6 h (λh=>u6 h (λh=>bZ h (fL _)) a) b) c) d) e) f) g
@[elab_as_elim] theorem C5 {G:aB->Prop} (b:aB) (a:G 0) (z:∀k,G (k+1)):G b:=d6 (motive:=G) b a λc=>z c
@[elab_as_elim] theorem nt3 {G:aB->Prop} (d:aB) (a:G 0) (b:G 1) (c:G 2) (z:∀k,G (k+3)):G d:=d6 (motive:=G) d a λg=>d6 (motive:=λq=>G (q+1)) g b λf=>d6 (motive:=λq=>G (q+2)) f c λe=>z e
@[elab_as_elim] theorem nt4 {G:aB->Prop} (e:aB) (a:G 0) (b:G 1) (c:G 2) (d:G 3) (z:∀k,G (k+4)):G e:=d6 (motive:=G) e a λi=>d6 (motive:=λq=>G (q+1)) i b λh=>d6 (motive:=λq=>G (q+2)) h c λg=>d6 (motive:=λq=>G (q+3)) g d λf=>z f
@[elab_as_elim] theorem nt5 {G:aB->Prop} (f:aB) (a:G 0) (b:G 1) (c:G 2) (d:G 3) (e:G 4) (z:∀k,G (k+5)):G f:=d6 (motive:=G) f a λl=>d6 (motive:=λq=>G (q+1)) l b λj=>d6 (motive:=λq=>G (q+2)) j c λi=>d6 (motive:=λq=>G (q+3)) i d λh=>d6 (motive:=λq=>G (q+4)) h e λg=>z g
@[elab_as_elim] theorem nt6 {G:aB->Prop} (g:aB) (a:G 0) (b:G 1) (c:G 2) (d:G 3) (e:G 4) (f:G 5) (z:∀k,G (k+6)):G g:=d6 (motive:=G) g a λn=>d6 (motive:=λq=>G (q+1)) n b λm=>d6 (motive:=λq=>G (q+2)) m c λl=>d6 (motive:=λq=>G (q+3)) l d λj=>d6 (motive:=λq=>G (q+4)) j e λi=>d6 (motive:=λq=>G (q+5)) i f λh=>z h
open PySem
noncomputable def xS:TF->Operator
 |.a=>.Add|.c=>.Sub|.d=>.Mult|.e=>.FloorDiv|.b=>.Mod|.f=>.BitAnd
noncomputable def kU:COp->CmpOp
 |.a=>.Eq|.d=>.NotEq|.c=>.Lt|.j=>.LtE|.b=>.Gt|.h=>.GtE|.e=>.In|.f=>.NotIn|.g=>.Is|.i=>.IsNot
noncomputable def yq:Bm->ft
 |.a=>"append" |.b=>"pop" |.d=>"isascii" |.c=>"isalpha" |.f=>"isalnum" |.g=>"isdigit"
 |.h=>"lower" |.j=>"find" |.i=>"replace" |.e=>"join"
noncomputable def qM:Bi->ft
 |.a=>"len" |.h=>"str" |.e=>"int" |.d=>"abs" |.c=>"range"
 |.f=>"min" |.i=>"max" |.b=>"tuple" |.g=>"type"
noncomputable def cN:At->ft
 |.ts=>"ts"
 |.A5=>"pos"
 |.r8=>"code"
noncomputable def zi (s:ft):Tx:=s.cps.u
noncomputable def kn (a b:ft):bC:=bT (zi a) (zi b)
noncomputable def Zg:fU:=.H .s 0 ⟨0,0,0,0⟩
noncomputable def fY (x:fU):ao fU:=match x with
 |.BoolOp _ d _=>d
 |.BinOp l _ r _=>[l,r]
 |.UnaryOp _ a _=>[a]
 |.IfExp a b c _=>[a,b,c]
 |.M e h _ _=>e::h.kJ λg=>g.target::g.iter::g.ifs
 |.GeneratorExp e h _ _=>e::h.kJ λg=>g.target::g.iter::g.ifs
 |.j4 l _ i _=>l::i
 |.Z f d _ _=>f::d
 |.E v _ _=>[v]
 |.P v s _=>[v,s]
 |.List d _=>d
 |.X d _ _=>d
 |.Slice a b c _=>[a.l x,b.l x,c.l x]
 |_=>[]
noncomputable def cW (x:fU)(n:aB):fU:=(fY x).l n Zg
noncomputable def jP (x:fU):ft:=match x with
 |.r y _=>y
 |.E _ y _=>y
 |.H (.str y) _ _=>y
 |_=>"".u.d z8 |>.N |> Str.mk
noncomputable def hnE (h:Ik):ao fU:=match h with
 |.ExceptHandler t _ _ _=>t.u
noncomputable def hnB (h:Ik):ao mJ:=match h with
 |.ExceptHandler _ _ b _=>b
noncomputable def hnP (h:Ik):Pos:=match h with
 |.ExceptHandler _ _ _ p=>p
noncomputable def kS (x:mJ):ao fU:=match x with
 |.Expr e _=>[e]
 |.W b v _=>v::b
 |.km a _ v _=>[v,a]
 |.Delete b _=>b
 |.If q _ _ _=>[q]
 |.While q _ _ _=>[q]
 |.For a i _ _ _=>[i,a]
 |.Return o _=>o.u
 |.Raise o _ _=>o.u
 |.Try _ c _ _ _=>c.kJ hnE
 |_=>[]
noncomputable def kx (x:mJ)(n:aB):fU:=(kS x).l n Zg
noncomputable def bS (x:mJ):ao mJ:=match x with
 |.If _ a _ _=>a
 |.While _ a _ _=>a
 |.For _ _ a _ _=>a
 |.Try a _ _ _ _=>a
 |_=>[]
noncomputable def eS (x:mJ):ao mJ:=match x with
 |.If _ _ b _=>b
 |.Try _ a _ _ _=>a.kJ hnB
 |_=>[]
noncomputable def hP (x:mJ):Pos:=match x with
 |.Try _ a _ _ _=>(a.d hnP).uI x.x
 |_=>x.x
noncomputable def JO (l:ao mJ):mJ:=l.uI (.Pass ⟨0,0,0,0⟩)
noncomputable def ixF (p:b->bC):ao b->aB->aJ aB
 |[],_=>aq
 |a::l,n=>kr (p a) (ah n) (ixF p l (n+1))
noncomputable def X9 (x:Tx)(l:ao Tx):aJ aB:=ixF (bT x) l 0
noncomputable def Vj:ao E->Es
 |[]=>.b
 |a::l=>.a a (Vj l)
noncomputable def T9:ao S->Ss
 |[]=>.b
 |a::l=>.a a (T9 l)
abbrev FnT:=aB×ft×uP×Arguments×ao mJ
noncomputable def fnO (c:aB)(x:mJ):aJ FnT:=match x with
 |.FunctionDef n a b _ _ _ s _ _ _=>ah (c,n,s,a,b)
 |_=>aq
noncomputable def fnL:aB->ao mJ->ao FnT
 |_,[]=>[]
 |c,x::l=>match x with
  |.FunctionDef n a b _ _ _ s _ _ _=>(0,n,s,a,b)::fnL c l
  |.ClassDef _ _ _ b _ _ _ _ _ _ _=>b.jB (fnO c)++fnL (c+1) l
  |_=>fnL c l
noncomputable def fns:ao FnT:=[0,1,2,3,4,5,6,7,8,9,10,11,12,13,20,21,22,23,24,25,26,27,28,30,31,32,33,14,15,16,17,18,19,29,34,35,36,37,38,39,40,41].jB λi=>(fnL 1 PySem.Challenge.pw_sx_r130_1.main.body)[i]?
noncomputable def fnN:(y:ao (aB×Tx))×' y=fns.d λf=>(f.1,zi f.2.1):=⟨_,by conv=>rhs;reduce⟩
noncomputable def tSt (s:xy):Tx:=zi s
noncomputable def gnN:ao Tx:=["_WORDS","_CMP","int","_law_signs","_law_cmps","_law_procs","_law_loose","_law_unsound","_law_no_text","tuple"].d tSt
noncomputable def cnN:ao Tx:=["_Parser","_Compiler"].d tSt
section
variable (vs:ao Tx)(c:aB)
noncomputable def X2 (x:fU):aB:=(X9 (zi (jP x)) vs).l 99
noncomputable def fxN (c:aB)(y:ft):aJ aB:=ixF (λp=>aM p.1 c&&bT p.2 (zi y)) fnN.1 0
noncomputable def fdF {a:Type}(l:ao a)(f:a->ft)(y:ft):aJ a:=l.find? λb=>kn (f b) y
noncomputable def cop (o:CmpOp):COp:=([COp.a,.d,.c,.j,.b,.h,.e,.f,.g,.i].find? λb=>bg (kU b=o)).l .a
noncomputable def bop (o:Operator):TF:=([TF.a,.c,.d,.e,.b,.f].find? λb=>bg (xS b=o)).l .a
noncomputable def ata (y:ft):At:=(fdF [At.ts,.A5,.r8] cN y).l .ts
noncomputable def cvE:aB->fU->E
 |0,_=>.y
 |n+1,x=>
  let r:=cvE n;let k:=λi=>r (cW x i);let a:=Vj ((fY x).d r);let t:=Vj ((fY x).R.d r)
  match x with
  |.H c _ _=>(match c with
   |.bool b=>.A b
   |.O i=>.d i
   |.str s=>.h (zi s)
   |_=>.y)
  |.r y _=>(match X9 (zi y) vs with
   |some i=>.v i
   |none=>.g ((X9 (zi y) gnN).l 99))
  |.BinOp _ o _ _=>.n (bop o) (k 0) (k 1)
  |.UnaryOp o _ _=>(match o with
   |.Not=>.G (k 0)
   |_=>.M (k 0))
  |.j4 _ d _ _=>(match d with
   |[o]=>.q (cop o) (k 0) (k 1)
   |o::p::_=>.N (cop o) (cop p) (k 0) (k 1) (k 2)
   |_=>.y)
  |.BoolOp o _ _=>(match o with
   |.And=>.B a
   |_=>.I a)
  |.IfExp ..=>.L (k 0) (k 1) (k 2)
  |.Z f _ _ _=>(match f with
   |.r y _=>(match X9 (zi y) cnN with
    |some i=>.Q i t
    |none=>match fxN 0 y with
     |some i=>.u i t
     |none=>.r ((fdF [Bi.a,.h,.e,.d,.c,.f,.i,.b,.g] qM y).l .a) t)
   |.E o y _=>(match fdF [Bm.a,.b,.d,.c,.f,.g,.h,.j,.i,.e] yq y with
    |some b=>kr (bT (zi (jP o)) (zi "self")) (.w (r o) ((fxN c y).l 99) t) (.t (r o) b t)
    |none=>.w (r o) ((fxN c y).l 99) t)
   |_=>.y)
  |.E _ y _=>.D (k 0) (ata y)
  |.P _ i _=>(match i with
   |.Slice l h _ _=>.H (k 0) (match l with|some e=>.c (r e)|none=>.f) (match h with|some e=>.c (r e)|none=>.f)
   |_=>.l (k 0) (k 1))
  |.List ..=>.z a
  |.X ..=>.p a
  |.Dict ..=>.R
  |.M e _ _ _=>(match fY x with
   |[_,_,_,_]=>.O (k 2)
   |_=>match e with
    |.Z f _ _ _=>(match fY e with
     |[_,_,.H (.O i) _ _]=>.J ((fxN 0 (jP f)).l 99) i (k 2)
     |_=>.y)
    |.BinOp ..=>.F (k 2)
    |.r y _=>.P (fY (cW x 1)).a ((X9 (zi y) ((fY (cW x 1)).d λz=>zi (jP z))).l 99) (k 2)
    |_=>.K (X2 vs (cW e 1)) (k 2))
  |_=>.y
noncomputable def cvS:aB->mJ->S
 |0,_=>.Pu
 |n+1,x=>
  let r:=cvE vs c 40;let q:=λl=>T9 (l.d (cvS n));let a:=r (kx x 0);let t:=kx x 1;let k:=λi=>r (cW t i);let m:=(fY t).d (X2 vs);let b:=q (bS x)
  match x with
  |.Expr ..=>.oM a
  |.W ..=>(match t with
   |.r ..=>.rA (X2 vs t) a
   |.X ..=>.FK m a
   |.E _ y _=>.rz (k 0) (ata y) a
   |.P _ i _=>(match i with
    |.Slice ..=>.qN (k 0) (r (cW i 0)) (r (cW i 1)) a
    |_=>.yw (k 0) (k 1) a)
   |_=>.Pu)
  |.km _ o _ _=>(match t with
   |.r ..=>.Sw (X2 vs t) (bop o) a
   |.E _ y _=>.rC (k 0) (ata y) (bop o) a
   |_=>.yx (k 0) (k 1) (bop o) a)
  |.Delete ..=>.tQ (r (cW (kx x 0) 0)) (r (cW (cW (kx x 0) 1) 0))
  |.If ..=>.vj a b (q (eS x))
  |.While ..=>.Lu a b
  |.For ..=>(match t with
   |.r ..=>.DC (X2 vs t) a b
   |_=>.FL m a b)
  |.Return ..=>.CF a
  |.Raise ..=>.wb (r (cW (kx x 0) 1))
  |.Continue ..=>.FN
  |.Try ..=>.yv b (X2 vs (kx (JO (eS x)) 1)) (r (kx (JO (eS x)) 0))
  |_=>.Pu
end
noncomputable def acS (x:Tx)(l:ao Tx):ao Tx:=kr (X9 x l).kI l (l++[x])
noncomputable def Vp:aB->ao Tx->ao mJ->ao Tx
 |0,l,_=>l
 |n+1,l,b=>b.foldl (λl x=>Vp n (Vp n ((match kx x 1 with
   |.r y _=>[y]
   |.X a _ _=>a.d jP
   |_=>[]).foldl (λl y=>acS (zi y) l) l) (bS x)) (eS x)) l
noncomputable def fnD (k:aB):FnT:=(fns[k]?).l (0,"",⟨.L,[],aw,aw,[]⟩,⟨[],[],aq,[],[],aq,[]⟩,[])
noncomputable def fnA (k:aB):ao Tx:=(fnD k).2.2.2.1.args.d λa=>zi a.arg
noncomputable def OX (k:aB):ao mJ:=(fnD k).2.2.2.2
noncomputable def vrO (k:aB):ao Tx:=Vp 40 (fnA k) (OX k)
noncomputable def cvF (k:aB):cO:=⟨(fnA k).a,T9 ((kr (aM k 41) (OX k).dropLast.dropLast (OX k)).d (cvS (vrO k) (kr (bM k 13) 1 2) 40))⟩
noncomputable def t41:fU:=kx (JO (OX 41).B.R) 0
noncomputable def cvL (x:fU):E:=cvE (vrO 41) 2 9 x
open PySem
noncomputable def dj:aB->Ss->Ss
 |0,s=>s
 |_+1,.b=>.b
 |n+1,.a _ s=>dj n s
noncomputable def abO (s:Ss)(b:aB):Ss:=match s with
 |.b=>.b
 |.a s _=>match s with
  |.vj _ a e=>kr (aM b 0) a e
  |.Lu _ a=>a
  |.DC _ _ a=>a
  |.FL _ _ a=>a
  |_=>.b
noncomputable def vg (s:Ss):E:=match s with
 |.a (.Lu a _) _=>a
 |_=>.y
noncomputable def kK:ao aB->Ss->Ss
 |[],s=>s
 |i::l,s=>kK l (abO (dj (i / 2) s) (i%2))
noncomputable def irs:(y:ao cO)×' y=(ew 42).d cvF:=⟨_,by conv=>rhs;reduce⟩
noncomputable def irq:(y:E×E)×' y=(cvL (cW t41 0),cvL (cW (cW (cW (cW t41 1) 0) 1) 2)):=⟨_,by conv=>rhs;reduce⟩
noncomputable def oD (k:aB):cO:=irs.1.l k ⟨0,.b⟩
noncomputable def UX:cO:=oD 0
noncomputable def Y6:E:=vg (dj 1 (kK [4,8] UX.a))
noncomputable def Y8:Ss:=kK [4,8,2] UX.a
noncomputable def Y5:E:=vg (dj 1 (kK [4,6] UX.a))
noncomputable def Y7:Ss:=kK [4,6,2] UX.a
noncomputable def Sl:E:=vg (dj 2 UX.a)
noncomputable def KQ:Ss:=kK [4] UX.a
noncomputable def ir1:cO:=oD 1
noncomputable def ir2:cO:=oD 2
noncomputable def ir3:cO:=oD 3
noncomputable def ir4:cO:=oD 4
noncomputable def ir5:cO:=oD 5
noncomputable def ir6:cO:=oD 6
noncomputable def YY:E:=vg (dj 1 ir6.a)
noncomputable def adM:Ss:=kK [2] ir6.a
noncomputable def ir7:cO:=oD 7
noncomputable def YX:E:=vg (dj 1 ir7.a)
noncomputable def adL:Ss:=kK [2] ir7.a
noncomputable def ir8:cO:=oD 8
noncomputable def ir9:cO:=oD 9
noncomputable def UW:cO:=oD 10
noncomputable def UT:E:=vg (dj 1 UW.a)
noncomputable def UU:Ss:=kK [2] UW.a
noncomputable def US:cO:=oD 11
noncomputable def UQ:E:=vg (dj 1 (kK [12,8] US.a))
noncomputable def UR:Ss:=kK [12,8,2] US.a
noncomputable def Bu:cO:=oD 12
noncomputable def UN:E:=vg (dj 0 (kK [6,4] Bu.a))
noncomputable def UP:Ss:=kK [6,4,0] Bu.a
noncomputable def KN:E:=vg (dj 3 Bu.a)
noncomputable def KP:Ss:=kK [6] Bu.a
noncomputable def UM:E:=vg (dj 1 (kK [4,0] Bu.a))
noncomputable def UO:Ss:=kK [4,0,2] Bu.a
noncomputable def KL:E:=vg (dj 0 (kK [4] Bu.a))
noncomputable def KO:Ss:=kK [4,0] Bu.a
noncomputable def acA:cO:=oD 13
noncomputable def acz:cO:=oD 14
noncomputable def acy:cO:=oD 15
noncomputable def acx:cO:=oD 16
noncomputable def zN:cO:=oD 17
noncomputable def UL:Ss:=kK [34] zN.a
noncomputable def UH:Ss:=dj 13 zN.a
noncomputable def UK:Ss:=kK [24] zN.a
noncomputable def acw:Ss:=dj 11 zN.a
noncomputable def KJ:Ss:=kK [20] zN.a
noncomputable def acv:Ss:=dj 9 zN.a
noncomputable def UJ:Ss:=kK [16] zN.a
noncomputable def acu:Ss:=dj 5 zN.a
noncomputable def UI:Ss:=kK [8] zN.a
noncomputable def Y4:cO:=oD 18
noncomputable def UG:Ss:=kK [0] Y4.a
noncomputable def acs:cO:=oD 19
noncomputable def OT:cO:=oD 20
noncomputable def acr:Ss:=kK [3,1,1,0] OT.a
noncomputable def wU:cO:=oD 21
noncomputable def aco:Ss:=kK [2] wU.a
noncomputable def KI:Ss:=kK [3,0,4] wU.a
noncomputable def acn:Ss:=kK [3,0] wU.a
noncomputable def acm:Ss:=kK [3,1,0,6] wU.a
noncomputable def ack:Ss:=kK [3,1,0] wU.a
noncomputable def acj:Ss:=kK [3,1,1,0] wU.a
noncomputable def acq:Ss:=kK [3,1,1,1,0,2] wU.a
noncomputable def aci:Ss:=kK [3,1,1,1,0] wU.a
noncomputable def ach:Ss:=kK [3,1,1,1,1,0] wU.a
noncomputable def acp:Ss:=kK [3,1,1,1,1,1,0,0] wU.a
noncomputable def acg:Ss:=kK [3,1,1,1,1,1,1,0] wU.a
noncomputable def acf:cO:=oD 22
noncomputable def UE:cO:=oD 23
noncomputable def UB:E:=vg (dj 0 UE.a)
noncomputable def UD:Ss:=kK [0] UE.a
noncomputable def ace:cO:=oD 24
noncomputable def Bt:cO:=oD 25
noncomputable def acd:Ss:=kK [8,7,1,1,0] Bt.a
noncomputable def acb:Ss:=kK [8,7,1,1,1,1,0] Bt.a
noncomputable def aca:Ss:=kK [8,7,1,1,1,1,1,1,0] Bt.a
noncomputable def ab9:Ss:=kK [8,7,1,1,1,1,1,1,1,1,1,1,0] Bt.a
noncomputable def ab8:Ss:=kK [8,7,1,1,1,1,1,1,1,1,1,1,1,0] Bt.a
noncomputable def ab7:Ss:=kK [8,7,1,1,1,1,1,1,1,1,1,1,1,1,1,0] Bt.a
noncomputable def UA:E:=vg (dj 4 Bt.a)
noncomputable def gm:Ss:=kK [8] Bt.a
noncomputable def ab6:cO:=oD 26
noncomputable def Y2:cO:=oD 27
noncomputable def ab5:cO:=oD 28
noncomputable def Y0:cO:=oD 29
noncomputable def yd:Ss:=kK [2] Y0.a
noncomputable def Uz:cO:=oD 30
noncomputable def KH:cO:=oD 31
noncomputable def KG:Ss:=kK [6,2] KH.a
noncomputable def KD:Ss:=kK [6] KH.a
noncomputable def KC:Ss:=kK [4] KH.a
noncomputable def ab4:cO:=oD 32
noncomputable def ab3:cO:=oD 33
noncomputable def ab2:cO:=oD 34
noncomputable def Uy:cO:=oD 35
noncomputable def ab1:cO:=oD 36
noncomputable def Dk:cO:=oD 37
noncomputable def abZ:Ss:=dj 9 Dk.a
noncomputable def ab0:Ss:=kK [16] Dk.a
noncomputable def abY:Ss:=dj 8 Dk.a
noncomputable def abX:Ss:=dj 7 Dk.a
noncomputable def KA:Ss:=dj 6 Dk.a
noncomputable def Ux:Ss:=kK [10] Dk.a
noncomputable def yc:Ss:=dj 5 Dk.a
noncomputable def abW:cO:=oD 38
noncomputable def Bs:cO:=oD 39
noncomputable def Uw:Ss:=kK [20] Bs.a
noncomputable def Br:Ss:=dj 8 Bs.a
noncomputable def Ut:Ss:=dj 3 Bs.a
noncomputable def Uv:Ss:=kK [4] Bs.a
noncomputable def abU:Ss:=dj 2 Bs.a
noncomputable def abV:Ss:=kK [2,6] Bs.a
noncomputable def Uu:Ss:=kK [2] Bs.a
noncomputable def OS:cO:=oD 40
noncomputable def Us:Ss:=kK [20] OS.a
noncomputable def sM:Ss:=dj 4 OS.a
noncomputable def Ur:Ss:=dj 1 OS.a
noncomputable def l0:Ss:=(oD 41).a
noncomputable def FA:E:=irq.1.1
noncomputable def Fz:E:=irq.1.2
noncomputable def YZ:cO:=⟨1,Ac l0 (z9 FA Fz)⟩
noncomputable def Um:Ss:=dj 26 l0
noncomputable def Uq:Ss:=kK [50] l0
noncomputable def Up:Ss:=kK [48] l0
noncomputable def abT:Ss:=dj 24 l0
noncomputable def Uo:Ss:=kK [46] l0
noncomputable def Bq:Ss:=dj 20 l0
noncomputable def pJ:Ss:=dj 15 l0
noncomputable def yb:Ss:=dj 12 l0
noncomputable def ya:Ss:=dj 8 l0
noncomputable def So:aB->aJ cO
 |0=>ah UX
 |1=>ah ir1
 |2=>ah ir2
 |3=>ah ir3
 |4=>ah ir4
 |5=>ah ir5
 |6=>ah ir6
 |7=>ah ir7
 |8=>ah ir8
 |9=>ah ir9
 |10=>ah UW
 |11=>ah US
 |12=>ah Bu
 |13=>ah acA
 |14=>ah acz
 |15=>ah acy
 |16=>ah acx
 |17=>ah zN
 |18=>ah Y4
 |19=>ah acs
 |20=>ah OT
 |21=>ah wU
 |22=>ah acf
 |23=>ah UE
 |24=>ah ace
 |25=>ah Bt
 |26=>ah ab6
 |_=>aq
end Mine.Internal
namespace Mine.Internal.P
noncomputable def Lv:ao Tx:=[[112,114,111,103,114,97,109],[118,97,114],[105,110,116,101,103,101,114],[97,114,114,97,121],[111,102],[112,114,111,99,101,100,117,114,101],[98,101,103,105,110],[101,110,100],[105,102],[116,104,101,110],[101,108,115,101],[119,104,105,108,101],[100,111],[114,101,112,101,97,116],[117,110,116,105,108],[102,111,114],[116,111],[100,111,119,110,116,111],[119,114,105,116,101],[100,105,118],[109,111,100],[111,100,100]]
noncomputable def oy:ao Tx:=[[61],[60,62],[60],[60,61],[62],[62,61]]
noncomputable def HZ:aB->aJ aB
 |0=>aq
 |1|2|3|4|5|6|7|8|9|10|11|12=>ah 0
 |15|16|17|18|19|20|21=>ah 1
 |_=>aq
structure Core (T:dt)(D:aB->aJ cO):Prop where
 d:∀k,k<27->D k=So k
 c:∀k,k<27->T.a k=HZ k
 g:T.b 0=ah (.j (Lv.d .c))
 f:T.b 1=ah (.f (oy.d .c))
 i:T.c 0=ah 1
 j:T.c 1=ah 15
inductive cQ where
 |a (w:Tx)|b (w:Tx)|c (n:aB)|e
noncomputable def cQ.ctorIdx (x:cQ):aB:=@cQ.casesOn (λz=>aB) x (λz=>0) (λz=>1) (λz=>2) 3
noncomputable def HH:Tx:=[119,111,114,100]
noncomputable def sr:Tx:=[110,97,109,101]
noncomputable def vA:Tx:=[105,110,116]
noncomputable def aaI:Tx:=[101,110,100]
noncomputable def cQ.f:cQ->AV
 |.a w=>.f [.c HH,.c w]
 |.b w=>.f [.c sr,.c w]
 |.c n=>.f [.c vA,.d n]
 |.e=>.f [.c aaI,.c []]
def PS (σ:a8)(r t:aB)(rest:ao cQ):Prop:=
 ∃a p,σ[r]?=ah (.b 0 [(.ts,.e t),(.A5,.d (p:aB))])/\σ[t]?=ah (.a a)/\a.m p=rest.d cQ.f
def fR (r:aB)(σ a:a8):Prop:=σ.a<=a.a/\∀i,i≠r->i<σ.a->a[i]?=σ[i]?
theorem fR.oW (r:aB)(σ:a8):fR r σ σ:=⟨au _,λz z z=>af⟩
theorem fR.cq (h:fR r a b)(f:fR r b c):fR r a c:=
 ⟨ab h.1 f.1,λi e d=>f.2 i e (aS d h.1)▸h.2 i e d▸af⟩
section
variable {T:dt}{D:aB->aJ cO}
theorem PS.XJ (h:PS σ r t (k::rest)):∃ts p,σ[r]?=ah (.b 0 [(.ts,.e t),(.A5,.d (p:aB))])/\σ[t]?=ah (.a ts)/\ts[p]?=ah k.f/\p<ts.a/\ts.m (p+1)=rest.d cQ.f:=by
 refine mO h λts p d c b=>?_;have a:(ts.m p)[0]?=ah k.f:=by rw [b];rfl
 have a:=kq▸a;simp only [Nat.add_zero] at a;refine U0 ts p d c a ((a7.g a).1) ?_;have:ts.m (p+1)=(ts.m p).m 1:=by rw [kP]
 refine aA this (aA b ?_);rfl
theorem jb {p n:aB}(h:p<n):lZ (p:aU) n=ah p:=by
 unfold lZ;refine aA (c7 (bq p)) (aA (c7 (cM.i h)) ?_);rfl
theorem aH (h:e i=ah a)(p:P a):CQ e i P:=by
 unfold CQ;exact aA h p
theorem fE (c:b=ax->A)(a:b=aw->B):v8 (.g b) A B:=by
 cases b
 ·exact a af
 ·exact c af
theorem sY (c:b=ax->B)(a:b=aw->A):v8 (.g (!b)) A B:=by
 cases b
 ·exact a af
 ·exact c af
theorem q6 (h:b=ax)(a:A):sP b A:=aA h a
theorem rK (d:σ[r]?=ah (.b c e))(b:e.j x=ah v)(a:Fs v=ax)(q:Q v):p9 (.e r) x σ Q:=by
 unfold p9;exact Y9 _ _ _ _ af d b a q
theorem BU (a:σ[r]?=ah (.b c b))(q:Q (σ.w r (.b c (zL x v b)))):lO (.e r) x v σ Q:=by
 unfold lO;exact KS _ _ _ af a q
theorem bk (a:σ[r]?=ah (.a l))(q:Q l):kL r σ Q:=by
 unfold kL;exact bQ _ a q
theorem b8 (h:o=ah a)(p:P a):lh o P:=by
 unfold lh;exact aA h p
theorem Ck (c:σ[r]?=ah (.a l))(b:lZ i l.a=ah k)(a:l[k]?=ah v)(q:Q v):qI (.e r) (.d i) σ Q:=bk c (b8 b (b8 a q))
theorem aa1 (e:xP a b=ah c)(d:bM a.m 100=ax)(q:Q c):Ze a b Q:=by
 unfold Ze;exact e▸d▸q
theorem mU (q:Q ax):kT .h Q:=by unfold kT;exact q
theorem sV (q:Q aw):kT (.d i) Q:=by unfold kT;exact q
theorem vk:∀l:Tx,bT l l=ax:=by
 intro c
 induction c with
 |nil=>
  exact af
 |cons a l b=>
  show (aM a a&&bT l l)=ax;rw [gU];refine aA b ?_;rfl
theorem eA:∀{l r:Tx},bT l r=ax->l=r
 |[],[],_=>af
 |a::l,b::r,h=>by
  have h:=ae.g (show (aM a b&&bT l r)=ax from h);exact aA (aD h.1) (aA (eA h.2) af)
noncomputable def cQ.d (w:Tx):cQ->bC
 |.a v=>bT v w
 |_=>aw
theorem Mk {k:cQ}:xP k.f (.f [.c HH,.c w])=ah (k.d w):=by
 cases k with
 |a u=>exact aW ah (tv _)
 |_=>rfl
theorem Ri {k:cQ}:bM k.f.m 100=ax:=by cases k<;>rfl
theorem To (h:cL k 27=ax):k<27:=aa h
theorem Core.e (K:Core T D)(k:aB){d:cO}(h:cL k 27=ax)(a:So k=ah d):D k=ah d:=(K.d k (To h)).b a
theorem Core.b (K:Core T D)(k:aB)(h:cL k 27=ax)(a:HZ k=o):T.a k=o:=(K.c k (To h)).b a
theorem pL {σ:a8}(h:PS σ r t (k::rest))(q:P k.f):p9 (.e r) .ts σ (λv=>p9 (.e r) .A5 σ λp=>qI v p σ P):=by
 refine O3 h.XJ λe p a d c b f=>?_;exact rK a af af (rK a af af (Ck d (jb b) c q))
theorem Mp {σ:a8}(f:e 0=ah (.e r))(h:PS σ r t (k::rest))(q:P k.f):p9 (.e r) .ts σ (λv=>CQ e 0 λo=>p9 o .A5 σ λp=>qI v p σ P):=by
 refine O3 h.XJ λg p a d c b i=>?_;exact rK a af af (aH f (rK a af af (Ck d (jb b) c q)))
theorem NI (K:Core T D){n r t:aB}(h:PS σ r t (k::rest))(q:Q (.g (k.d w)) σ) :
  bp T D (n+1) 2 [.e r,.c w] σ Q X:=by
 refine bU (K.e 2 af af) af ?_;intro d c b a;exact pL h (aa1 Mk Ri q)
theorem PS.adE {ts:ao AV}(c:σ[r]?=ah (.b 0 [(.ts,.e t),(.A5,.d (p:aB))]))(a:σ[t]?=ah (.a ts))(e:ts.m (p+1)=rest.d cQ.f) :
  PS (σ.w r (.b 0 [(.ts,.e t),(.A5,.d ((p:aU)+1))])) r t rest/\fR r σ (σ.w r (.b 0 [(.ts,.e t),(.A5,.d ((p:aU)+1))])):=by
 have b:r≠t:=by rintro rfl;have a:=c▸a;injection a with a;injection a
 refine dX (jf ts (p+1) ?_ ?_ e) (by simp) (λi d z=>?_)
 ·exact dw (gT ((a7.g c).1)) af
 ·exact aA (bA b) (aA a af)
 ·exact aA (bA (gJ d)) af
theorem Gg {P:a8->Prop}(h:PS σ r t (k::rest))(q:∀a,PS a r t rest->fR r σ a->P a):p9 (.e r) .A5 σ (λv=>yk .a v (.d 1) σ λw σ=>lO (.e r) .A5 w σ P):=by
 refine O3 h.XJ λf p c e i g d=>?_;have b:=PS.adE c e d;exact rK c af af (BU c (q _ b.1 b.2))
theorem pm (h:PS σ r t ts)(b:T.a f=ah 0)(a:P r):hY T f (.e r) σ P:=by
 refine l6 h λl p c z=>?_;unfold hY;exact IM _ _ _ af c b a
theorem Xd (K:Core T D){n r t:aB}(h:PS σ r t (k::rest))
  (d:k.d w=ax->∀a,PS a r t rest->fR r σ a->Q (.g ax) a) (c:k.d w=aw->Q (.g aw) σ) :
  bp T D (n+2) 4 [.e r,.c w] σ Q X:=by
 refine bU (K.e 4 af af) af ?_;intro i g f e;refine pm h (K.b 2 af af) (NI K h ?_);refine fE (λb=>?_) λb=>?_
 ·refine Gg h ?_;exact d b
 ·exact c b
theorem PC (K:Core T D){n r t:aB}(h:PS σ r t (k::rest))
  (d:k.d w=ax->∀a,PS a r t rest->fR r σ a->Q .h a) (c:k.d w=aw->∀a,X a) :
  bp T D (n+2) 3 [.e r,.c w] σ Q X:=by
 refine bU (K.e 3 af af) af ?_;intro i g f e;refine pm h (K.b 2 af af) (NI K h ?_);refine sY (λb=>?_) λb=>?_
 ·refine Gg h ?_;exact d b
 ·refine pL h ?_;exact c b _
noncomputable def cQ.g:cQ->Tx
 |.a _=>HH|.b _=>sr|.c _=>vA|.e=>aaI
noncomputable def cQ.h:cQ->AV
 |.a w=>.c w|.b w=>.c w|.c n=>.d n|.e=>.c []
theorem cQ.i (k:cQ):k.f=.f [.c k.g,k.h]:=by cases k<;>rfl
theorem uq (K:Core T D){n r t:aB}(h:PS σ r t (k::rest))
  (d:bT k.g w=ax->∀a,PS a r t rest->fR r σ a->Q k.h a) (c:bT k.g w=aw->∀a,X a) :
  bp T D (n+1) 5 [.e r,.c w] σ Q X:=by
 refine bU (K.e 5 af af) af ?_;intro i g f e;refine pL h ?_;refine aA k.i ?_;refine sY (λb=>?_) λb=>?_
 ·refine Gg h ?_;exact d b
 ·refine pL h ?_;exact c b _
end
set_option genInjectivity true in
inductive R (α:Type) where
 |e (a:α)|i|j
noncomputable def R.ctorIdx {α:Type}(x:R α):aB:=@R.casesOn α (λz=>aB) x (λz=>0) 1 2
noncomputable def R.g (m:R α)(f:α->R b):R b:=match m with
 |.e a=>f a
 |.i=>.i
 |.j=>.j
inductive Ex where
 |h (n:aB)|g (x:Tx)|k (x:Tx) (e:Ex)|m (e:Ex)|l (e:Ex)|c (op:Tx) (a b:Ex)
noncomputable def Ym:Tx:=[97,116]
noncomputable def Cd:Tx:=[110,101,103]
noncomputable def rZ:Tx:=[111,100,100]
noncomputable def Ex.d:Ex->AV
 |.h n=>.f [.c vA,.d n]
 |.g x=>.f [.c sr,.c x]
 |.k x e=>.f [.c Ym,.c x,e.d]
 |.m e=>.f [.c Cd,e.d]
 |.l e=>.f [.c rZ,e.d]
 |.c o a b=>.f [.c o,a.d,b.d]
inductive St where
 |iS
 |U (x:Tx) (e:Ex)
 |iR (x:Tx) (i e:Ex)
 |ip (x:Tx) (as:ao Ex)
 |uF (c:Ex) (a:St)
 |uE (c:Ex) (a b:St)
 |wt (c:Ex) (a:St)
 |wu (s:St) (c:Ex)
 |ti (x:Tx) (a b:Ex) (up:bC) (s:St)
 |vM (s:St)
 |R (e:Ex)
  |nh (s:St)
 |E (s:St) (r:St)
noncomputable def V7:Tx:=[101,109,112,116,121]
noncomputable def yM:Tx:=[115,101,116]
noncomputable def Ay:Tx:=[99,97,108,108]
noncomputable def zm:Tx:=[105,102]
noncomputable def oj:Tx:=[119,104,105,108,101]
noncomputable def jZ:Tx:=[114,101,112,101,97,116]
noncomputable def qp:Tx:=[102,111,114]
noncomputable def fQ:Tx:=[98,101,103,105,110]
noncomputable def iN:Tx:=[119,114,105,116,101]
mutual
noncomputable def St.K:St->AV
 |.iS=>.f [.c V7]
 |.U x e=>.f [.c yM,.c x,.h,e.d]
 |.iR x i e=>.f [.c yM,.c x,i.d,e.d]
 |.ip x f=>.f [.c Ay,.c x,.f (f.d Ex.d)]
 |.uF c a=>.f [.c zm,c.d,a.K,.h]
 |.uE c a b=>.f [.c zm,c.d,a.K,b.K]
 |.wt c a=>.f [.c oj,c.d,a.K]
 |.wu s c=>.f [.c jZ,.f s.w2,c.d]
 |.ti x a b d s=>.f [.c qp,.c x,a.d,b.d,.g d,s.K]
 |.vM s=>.f [.c fQ,.f s.w2]
 |.R e=>.f [.c iN,e.d]
 |.nh s=>.h
 |.E s r=>.h
noncomputable def St.w2:St->ao AV
 |.nh s=>[s.K]
 |.E s r=>s.K::r.w2
 |_=>[]
end
noncomputable def qY:St->ao St->St
 |s,[]=>.nh s
 |s,x::q=>.E s (qY x q)
theorem AI:∀(q:ao St) (s:St),(qY s q).w2=s.K::q.d St.K
 |[],_=>af
 |x::q,s=>aW (s.K::·) (AI q x)
inductive Bl where
 |e (vs:ao (Tx×aJ aB)) (ps:Bl) (ss:St)
 |h
 |g (x:Tx) (params:ao (Tx×bC)) (b:Bl) (rest:Bl)
noncomputable def Ga:aJ aB->AV
 |aq=>.h
 |some n=>.d n
noncomputable def Au (v:Tx×aJ aB):AV:=.f [.c v.1,Ga v.2]
noncomputable def xl (p:Tx×bC):AV:=.f [.c p.1,.g p.2]
noncomputable def yN:Tx:=[98,108,111,99,107]
mutual
noncomputable def Bl.f:Bl->AV
 |.e a c b=>.f [.c yN,.f (a.d Au),.f c.k,.f b.w2]
 |.h=>.h
 |.g ..=>.h
noncomputable def Bl.k:Bl->ao AV
 |.g x q b r=>.f [.c x,.f (q.d xl),b.f]::r.k
 |_=>[]
end
noncomputable def gC:aB:=400
section
variable {α:Type}
noncomputable def jy (w:Tx)(ts:ao cQ)(yes:ao cQ->R α)(no:R α):R α:=match ts with
 |[]=>.j
 |k::a=>match k.d w with
  |true=>yes a
  |false=>no
noncomputable def ek (w:Tx)(ts:ao cQ)(next:ao cQ->R α):R α:=match ts with
 |[]=>.j
 |k::a=>match k.d w with
  |true=>next a
  |false=>.i
noncomputable def wi (ts:ao cQ)(next:Tx->ao cQ->R α):R α:=match ts with
 |[]=>.j
 |.b x::a=>next x a
 |_::_=>.i
noncomputable def aas (ts:ao cQ)(next:aB->ao cQ->R α):R α:=match ts with
 |[]=>.j
 |.c x::a=>next x a
 |_::_=>.i
noncomputable def SW (ts:ao cQ)(next:Tx->ao cQ->R α):R α:=match ts with
 |[]=>.j
 |.a x::a=>next x a
 |_::_=>.i
end
abbrev PE:=R (Ex×ao cQ)
noncomputable def hK:Tx:=[43]
noncomputable def hU:Tx:=[45]
noncomputable def yC:Tx:=[42]
noncomputable def DG:Tx:=[100,105,118]
noncomputable def DF:Tx:=[109,111,100]
noncomputable def DE:Tx:=[40]
noncomputable def mP:Tx:=[41]
noncomputable def oO:Tx:=[91]
noncomputable def Jf:Tx:=[93]
noncomputable def q4 (w:Tx):bC:=bT w hK||bT w hU
noncomputable def kX (w:Tx):bC:=bT w yC||bT w DG||bT w DF
noncomputable def AM (w:Tx):bC:=cF w (oy.d .c)
noncomputable def kC (p:Tx->bC)(a:ao cQ->PE):aB->Ex->ao cQ->PE
 |0,_,_=>.j
 |g+1,e,c=>match c with
  |[]=>.j
  |.a w::b=>(match p w with
   |true=>(a b).g λq=>kC p a g (.c w e q.1) q.2
   |false=>.e (e,c))
  |_::_=>.e (e,c)
noncomputable def oP (a:ao cQ->PE)(ts:ao cQ):PE:=(a ts).g λq=>kC kX a gC q.1 q.2
noncomputable def lp (a:ao cQ->PE)(ts:ao cQ):PE:=(oP a ts).g λq=>kC q4 (oP a) gC q.1 q.2
noncomputable def dM:aB->ao cQ->PE
 |0,_=>.j
 |d+1,a=>jy hU a (λr=>(dM d r).g λq=>.e (.m q.1,q.2)) <|
  jy DE a (λr=>(lp (dM d) r).g λq=>ek mP q.2 λr=>.e (q.1,r)) <|
  match a with
  |[]=>.j
  |.c n::r=>.e (.h n,r)
  |.b x::r=>jy oO r (λr=>(lp (dM d) r).g λq=>ek Jf q.2 λr=>.e (.k x q.1,r)) (.e (.g x,r))
  |_::_=>.i
noncomputable def dE:aB:=12
noncomputable def gW (ts:ao cQ):PE:=lp (dM dE) ts
noncomputable def oQ (ts:ao cQ):PE:=
 jy rZ ts (λr=>ek DE r λr=>(gW r).g λq=>ek mP q.2 λr=>.e (.l q.1,r)) <|
 (gW ts).g λa=>SW a.2 λs r=>match AM s with
  |true=>(gW r).g λb=>.e (.c s a.1 b.1,b.2)
  |false=>.i
abbrev PT:=R (St×ao cQ)
noncomputable def oN:Tx:=[116,104,101,110]
noncomputable def gq:Tx:=[101,108,115,101]
noncomputable def Ha:Tx:=[100,111]
noncomputable def oi:Tx:=[117,110,116,105,108]
noncomputable def rX:Tx:=[58,61]
noncomputable def ZE:Tx:=[116,111]
noncomputable def tT:Tx:=[100,111,119,110,116,111]
noncomputable def iQ:Tx:=[101,110,100]
noncomputable def FQ:Tx:=[44]
noncomputable def tS:Tx:=[59]
noncomputable def VC:Tx:=[58]
noncomputable def iu (st:ao cQ->PT):aB->ao cQ->R (ao St×ao cQ)
 |0,_=>.j
 |g+1,a=>jy tS a (λr=>(st r).g λs=>(iu st g s.2).g λq=>.e (s.1::q.1,q.2)) (.e ([],a))
noncomputable def F8 (st:ao cQ->PT)(ts:ao cQ):PT:=(st ts).g λs=>(iu st gC s.2).g λq=>.e (qY s.1 q.1,q.2)
noncomputable def kD:aB->ao cQ->R (ao Ex×ao cQ)
 |0,_=>.j
 |g+1,a=>jy FQ a (λr=>(gW r).g λe=>(kD g e.2).g λq=>.e (e.1::q.1,q.2)) (.e ([],a))
noncomputable def Hz (ts:ao cQ):R (ao Ex×ao cQ):=
 jy DE ts (λr=>(gW r).g λe=>(kD gC e.2).g λq=>ek mP q.2 λr=>.e (e.1::q.1,r)) (.e ([],ts))
noncomputable def uf (st:ao cQ->PT)(x:Tx)(a:Ex)(up:bC)(ts:ao cQ):PT:=
 (gW ts).g λb=>ek Ha b.2 λr=>(st r).g λs=>.e (.ti x a b.1 up s.1,s.2)
noncomputable def pS6 (ts:ao cQ):PT:=match ts with
 |[]=>.j
 |.b x::r=>
  jy rX r (λr=>(gW r).g λe=>.e (.U x e.1,e.2)) <|
  jy oO r (λr=>(gW r).g λi=>ek Jf i.2 λr=>ek rX r λr=>(gW r).g λe=>.e (.iR x i.1 e.1,e.2)) <|
  (Hz r).g λq=>.e (.ip x q.1,q.2)
 |_::_=>.e (.iS,ts)
noncomputable def pS5 (ts:ao cQ):PT:=jy iN ts (λr=>ek DE r λr=>(gW r).g λe=>ek mP e.2 λr=>.e (.R e.1,r)) (pS6 ts)
noncomputable def pS4 (st:ao cQ->PT)(ts:ao cQ):PT:=jy fQ ts (λr=>(F8 st r).g λs=>ek iQ s.2 λr=>.e (.vM s.1,r)) (pS5 ts)
noncomputable def pS3 (st:ao cQ->PT)(ts:ao cQ):PT:=jy qp ts (λr=>wi r λx r=>ek rX r λr=>(gW r).g λa=>
 jy ZE a.2 (λr=>uf st x a.1 ax r) (ek tT a.2 λr=>uf st x a.1 aw r)) (pS4 st ts)
noncomputable def pS2 (st:ao cQ->PT)(ts:ao cQ):PT:=jy jZ ts (λr=>(F8 st r).g λs=>ek oi s.2 λr=>(oQ r).g λc=>.e (.wu s.1 c.1,c.2)) (pS3 st ts)
noncomputable def pS1 (st:ao cQ->PT)(ts:ao cQ):PT:=jy oj ts (λr=>(oQ r).g λc=>ek Ha c.2 λr=>(st r).g λa=>.e (.wt c.1 a.1,a.2)) (pS2 st ts)
noncomputable def pS0 (st:ao cQ->PT)(ts:ao cQ):PT:=jy zm ts (λr=>(oQ r).g λc=>ek oN c.2 λr=>(st r).g λa=>
 jy gq a.2 (λr=>(st r).g λb=>.e (.uE c.1 a.1 b.1,b.2)) (.e (.uF c.1 a.1,a.2))) (pS1 st ts)
noncomputable def dy:aB->ao cQ->PT
 |0,_=>.j
 |d+1,a=>pS0 (dy d) a
noncomputable def dS:aB:=14
noncomputable def yS (ts:ao cQ):PT:=F8 (dy dS) ts
noncomputable def BH:Tx:=[118,97,114]
noncomputable def yD:Tx:=[97,114,114,97,121]
noncomputable def wOf:Tx:=[111,102]
noncomputable def qQ:Tx:=[105,110,116,101,103,101,114]
noncomputable def ZF:Tx:=[112,114,111,99,101,100,117,114,101]
noncomputable def kA:Tx:=[112,114,111,103,114,97,109]
noncomputable def VB:Tx:=[46]
noncomputable def BY:aB->ao cQ->R (ao Tx×ao cQ)
 |0,_=>.j
 |g+1,a=>jy FQ a (λr=>wi r λx r=>(BY g r).g λq=>.e (x::q.1,q.2)) (.e ([],a))
noncomputable def BZ (xs:ao Tx)(z:aJ aB)(ts:ao cQ):R (ao (Tx×aJ aB)×ao cQ):=
 ek qQ ts λr=>ek tS r λr=>.e (xs.d λx=>(x,z),r)
noncomputable def aau (ts:ao cQ):R (ao (Tx×aJ aB)×ao cQ):=
 wi ts λx r=>(BY gC r).g λq=>ek VC q.2 λr=>
  jy yD r (λr=>ek oO r λr=>aas r λn r=>ek Jf r λr=>ek wOf r λr=>BZ (x::q.1) (ah n) r) (BZ (x::q.1) aq r)
noncomputable def F7 (vars:ao cQ->R (ao (Tx×aJ aB)×ao cQ))(v:ao (Tx×aJ aB)×ao cQ):R (ao (Tx×aJ aB)×ao cQ):=match v.2 with
 |[]=>.j
 |.b _::_=>(vars v.2).g λq=>.e (v.1++q.1,q.2)
 |_::_=>.e (v.1,v.2)
noncomputable def AE:aB->ao cQ->R (ao (Tx×aJ aB)×ao cQ)
 |0,_=>.j
 |g+1,a=>(aau a).g (F7 (AE g))
noncomputable def My (f:ao cQ->R (ao (Tx×bC)×ao cQ))(p:Tx×bC)(r:ao cQ):R (ao (Tx×bC)×ao cQ):=jy FQ r (λr=>(f r).g λq=>.e (p::q.1,q.2)) (.e ([p],r))
noncomputable def rD:aB->ao cQ->R (ao (Tx×bC)×ao cQ)
 |0,_=>.j
 |g+1,a=>jy BH a (λr=>wi r λx r=>My (rD g) (x,ax) r) (wi a λx r=>My (rD g) (x,aw) r)
abbrev PB:=R (Bl×ao cQ)
noncomputable def BX (a:ao cQ->PB)(x:Tx)(c:ao (Tx×bC))(ts:ao cQ):R ((Tx×ao (Tx×bC)×Bl)×ao cQ):=
 ek tS ts λr=>(a r).g λb=>ek tS b.2 λr=>.e ((x,c,b.1),r)
noncomputable def F9 (f:ao cQ->PB)(p:(Tx×ao (Tx×bC)×Bl)×ao cQ):PB:=(f p.2).g λq=>.e (.g p.1.1 p.1.2.1 p.1.2.2 q.1,q.2)
noncomputable def vv (a:ao cQ->PB):aB->ao cQ->PB
 |0,_=>.j
 |g+1,b=>jy ZF b (λr=>wi r λx r=>
   (jy DE r (λr=>(rD gC r).g λq=>ek mP q.2 λr=>BX a x q.1 r) (BX a x [] r)).g (F9 (vv a g))) (.e (.h,b))
noncomputable def B0 (a:ao cQ->PB)(vs:ao (Tx×aJ aB))(ts:ao cQ):PB:=
 (vv a gC ts).g λp=>ek fQ p.2 λr=>(yS r).g λs=>ek iQ s.2 λr=>.e (.e vs p.1 s.1,r)
noncomputable def B1:aB->ao cQ->PB
 |0,_=>.j
 |d+1,a=>jy BH a (λr=>(AE gC r).g λv=>B0 (B1 d) v.1 v.2) (B0 (B1 d) [] a)
noncomputable def dB:aB:=6
noncomputable def mT (ts:ao cQ):R (Tx×Bl):=
 ek kA ts λr=>wi r λx r=>ek tS r λr=>(B1 dB r).g λb=>ek VB b.2 λr=>match r with
  |[]=>.j
  |.e::_=>.e (x,b.1)
  |_::_=>.i
def Tt {b:Type}(enc:b->AV)(res:R (b×ao cQ))(r t:aB)(σ₀:a8)(Q:QV)(X:QX):Prop:=match res with
 |.e q=>∀a,PS a r t q.2->fR r σ₀ a->Q (enc q.1) a
 |.i=>∀a,X a
 |.j=>cR
structure mx {β:Type}(G:R β->Prop)(X:QX):Prop where
 d:G .i->∀σ',X σ'
 c:¬ G .j
theorem Tt.fM {a:Type}{enc:a->AV}{σ₀:a8}{Q:QV}:mx (λres=>Tt enc res r t σ₀ Q X) X:=⟨λh=>h,λh=>h⟩
theorem Tt.of {b β:Type}{enc:b->AV}{m:R (b×ao cQ)}{f:b×ao cQ->R β}{G:R β->Prop}(E:mx G X)(h:G (m.g f))
  (c:∀q a,PS a r t q.2->fR r σ a->G (f q)->Q (enc q.1) a):Tt enc m r t σ Q X:=by
 cases m with
 |e q=>exact λa e d=>c q a e d h
 |i=>exact E.d h
 |j=>exact (E.c h).e
section
variable {T:dt}{D:aB->aJ cO}
theorem rJ {n:aB}(h:1<=n):∃m,n=m+1:=⟨n-1,(uR h).h⟩
theorem JT {n:aB}(h:2<=n):∃m,n=m+2:=⟨n-2,(uR h).h⟩
section
variable {β:Type}{G:R β->Prop}{n r t:aB}{w:Tx}{σ:a8}{Q:QV}{X:QX}{ts:ao cQ}
theorem rE {a:Type}{w:Tx}{rest:ao cQ}{yes:ao cQ->R a}{no:R a}(e:k.d w=b):jy w (k::rest) yes no=match (generalizing:=false) b with
  |true=>yes rest
  |false=>no:=by subst e;rfl
theorem DW {a:Type}{w:Tx}{rest:ao cQ}{yes:ao cQ->R a}(e:k.d w=b):ek w (k::rest) yes=match (generalizing:=false) b with
  |true=>yes rest
  |false=>.i:=by subst e;rfl
theorem DX {p:Tx->bC}{a:ao cQ->PE}{x:Ex}{w:Tx}(e:p w=b):kC p a (g+1) x (.a w::rest)=match (generalizing:=false) b with
  |true=>(a rest).g λq=>kC p a g (.c w x q.1) q.2
  |false=>.e (x,.a w::rest):=by subst e;rfl
theorem gM (K:Core T D)(E:mx G X)(f:2<=n)(c:PS σ r t ts){yes:ao cQ->R β}{no:R β}(h:G (jy w ts yes no))
  (e:∀rest a,PS a r t rest->fR r σ a->G (yes rest)->Q (.g ax) a) (d:G no->Q (.g aw) σ):hY T 4 (.e r) σ λr=>bp T D n 4 [.e r,.c w] σ Q X:=by
 obtain ⟨n,rfl⟩:=JT f;refine pm c (K.b 4 af af) ?_;refine gl ?_;intro j;cases ts with
 |nil=>exact (E.c h).e
 |cons k rest=>
  refine Xd K c (λb a i g=>?_) (λb=>?_)
  ·rw [rE b] at h;exact e _ _ i g h
  ·rw [rE b] at h;exact d h
theorem en (K:Core T D)(E:mx G X)(e:2<=n)(c:PS σ r t ts){next:ao cQ->R β}(h:G (ek w ts next))
  (d:∀rest a,PS a r t rest->fR r σ a->G (next rest)->Q .h a):hY T 3 (.e r) σ λr=>bp T D n 3 [.e r,.c w] σ Q X:=by
 obtain ⟨n,rfl⟩:=JT e;refine pm c (K.b 3 af af) ?_;refine gl ?_;intro i;cases ts with
 |nil=>exact (E.c h).e
 |cons k rest=>
  refine PC K c (λb a g f=>?_) (λb=>?_)
  ·rw [DW b] at h;exact d _ _ g f h
  ·rw [DW b] at h;exact E.d h
theorem mw (K:Core T D)(E:mx G X)(e:1<=n)(c:PS σ r t ts){next:Tx->ao cQ->R β}(h:G (wi ts next))
  (d:∀x rest a,PS a r t rest->fR r σ a->G (next x rest)->Q (.c x) a):hY T 5 (.e r) σ λr=>bp T D n 5 [.e r,.c sr] σ Q X:=by
 refine oE e λn z=>?_;refine pm c (K.b 5 af af) ?_;refine gl ?_;intro i;cases ts with
 |nil=>exact (E.c h).e
 |cons k rest=>
  refine uq K c (λb a g f=>?_) (λb=>?_)
  ·cases k<;>first|exact d _ _ _ g f h|(cases b)
  ·refine gl ?_;intro i;cases k<;>first|exact E.d h|(cases b)
theorem FT (K:Core T D){k:cQ}{c:Tx}(d:1<=n)(b:PS σ r t (k::ts))(e:bT k.g c=ax)(q:∀a,PS a r t ts->fR r σ a->Q k.h a):hY T 5 (.e r) σ λr=>bp T D n 5 [.e r,.c c] σ Q X:=by
 refine oE d λn z=>?_;exact pm b (K.b 5 af af) (uq K b (λz=>q) λh=>aR (e.h.b h))
theorem WY (K:Core T D)(E:mx G X)(e:1<=n)(c:PS σ r t ts){next:aB->ao cQ->R β}(h:G (aas ts next))
  (d:∀(x:aB) rest a,PS a r t rest->fR r σ a->G (next x rest)->Q (.d x) a):hY T 5 (.e r) σ λr=>bp T D n 5 [.e r,.c vA] σ Q X:=by
 refine oE e λn z=>?_;refine pm c (K.b 5 af af) ?_;refine gl ?_;intro i;cases ts with
 |nil=>exact (E.c h).e
 |cons k rest=>
  refine uq K c (λb a g f=>?_) (λb=>?_)
  ·cases k<;>first|exact d _ _ _ g f h|(cases b)
  ·refine gl ?_;intro i;cases k<;>first|exact E.d h|(cases b)
theorem Py (K:Core T D)(E:mx G X)(e:1<=n)(c:PS σ r t ts){next:Tx->ao cQ->R β}(h:G (SW ts next))
  (d:∀x rest a,PS a r t rest->fR r σ a->G (next x rest)->Q (.c x) a):hY T 5 (.e r) σ λr=>bp T D n 5 [.e r,.c HH] σ Q X:=by
 refine oE e λn z=>?_;refine pm c (K.b 5 af af) ?_;refine gl ?_;intro i;cases ts with
 |nil=>exact (E.c h).e
 |cons k rest=>
  refine uq K c (λb a g f=>?_) (λb=>?_)
  ·cases k<;>first|exact d _ _ _ g f h|(cases b)
  ·refine gl ?_;intro i;cases k<;>first|exact E.d h|(cases b)
theorem Et (K:Core T D){k:cQ}(b:1<=n)(a:PS σ r t (k::ts))(q:Q (.g (k.d w)) σ):hY T 2 (.e r) σ λr=>bp T D n 2 [.e r,.c w] σ Q X:=by
 refine oE b λn z=>?_;exact pm a (K.b 2 af af) (NI K a q)
end
def zp {c:Type}(res:R (c×ao cQ))(r t:aB)(σ₀:a8)(F:c->Ev->a8->Prop)(QQ:QF)(XX:XS):Prop:=match res with
 |.e q=>∀b a,F q.1 b a->PS a r t q.2->fR r σ₀ a->QQ .a b a
 |.i=>∀b a,XX b a
 |.j=>cR
theorem zp.rp {b:Type}{r t:aB}{F:b->Ev->a8->Prop}{QQ:QF}:mx (λres=>zp res r t σ₀ F QQ XX) (XX e):=⟨λh a=>h e a,λh=>h⟩
def AZ (T:dt)(D:aB->aJ cO){a:Type}(f N:aB)(enc:a->AV)(p:ao cQ->R (a×ao cQ)):Prop:=
 ∀n,N<=n->∀r t ts σ Q X,PS σ r t ts->Tt enc (p ts) r t σ Q X->bp T D n f [.e r] σ Q X
theorem fy {b β:Type}{f N:aB}{enc:b->AV}{p:ao cQ->R (b×ao cQ)}(F:AZ T D f N enc p)(g:T.a f=ah 0){n r t:aB}(e:N<=n){G:R β->Prop}{k:b×ao cQ->R β}
  (E:mx G X) (d:PS σ r t ts) (h:G ((p ts).g k)) (c:∀q a,PS a r t q.2->fR r σ a->G (k q)->Q (enc q.1) a):hY T f (.e r) σ λr=>bp T D n f [.e r] σ Q X:=
 pm d g (F n e _ _ _ _ _ _ d (Tt.of E h c))
noncomputable def kW (p:Tx->bC):cQ->bC
 |.a w=>p w
 |_=>aw
noncomputable def MC (f:aB):Ss:=.a (.rA 2 (.w (.v 0) 5 (.a (.h [119,111,114,100]) .b))) (.a (.rA 1 (.p (.a (.v 2) (.a (.v 1) (.a (.w (.v 0) f .b) .b))))) .b)
theorem aaC (K:Core T D){n r t f N:aB}{a:ao cQ->PE}{p:Tx->bC}{u:Ev->a8->QV->QX->Prop}(I:1<=n)(L:N<=n)(J:T.a f=ah 0)(H:AZ T D f N Ex.d a)
  (s:∀e σ k rest Q X,e 0=ah (.e r)->PS σ r t (k::rest)->Q (.g (kW p k)) σ->u e σ Q X) (σ₀:a8) (QQ:QF) (XX:XS) :
  ∀(g:aB) (x:Ex) (ts:ao cQ) (e:Ev) (σ:a8),e 0=ah (.e r)->e 1=ah x.d->PS σ r t ts->fR r σ₀ σ->
   zp (kC p a g x ts) r t σ₀ (λy M _=>M 1=ah y.d) QQ XX->
   qm u (di T (bp T D n) (MC f)) g e σ QQ XX:=by
 intro g
 induction g with
 |zero=>intro x ts e σ _ _ _ _ h;exact h.e
 |succ g G=>
  intro x ts e σ z F d C h;refine se ?_;intro O;refine gl ?_;intro P;cases ts with
  |nil=>exact h.e
  |cons k rest=>
   refine s _ _ _ _ _ _ z d (fE (λv=>?_) λv=>?_)
   ·cases k with
    |a w=>
     have h:=DX v▸h;refine aH z ?_;obtain ⟨m,rfl⟩:=rJ I;refine pm d (K.b 5 af af) (uq K d (λ_ B c l=>?_) (λq=>aR q));refine aH (e:=bu e 2 _) (i:=1) F (aH (e:=bu e 2 _) (i:=0) z ?_);exact fy H J L zp.rp c h λq A b j o=>(G _ _ _ _ z af b ((C.cq l).cq j) o)
    |_=>injection v
   ·cases k with
    |a w=>have h:=DX v▸h;exact h _ _ F d C
    |_=>exact h _ _ F d C
theorem Xq (K:Core T D){n r t:aB}(c:1<=n):∀e σ k rest Q X,e 0=ah (.e r)->PS σ r t (k::rest)->Q (.g (kW kX k)) σ->ey T (bp T D n) YX e σ Q X:=by
 intro e σ k rest Q X d b h;have f:kW kX k=(k.d [42]||k.d [100,105,118]||k.d [109,111,100]):=by cases k<;>rfl
 rw [f] at h;refine aH d (Et K c b ?_);refine fE (λa=>?_) λa=>?_
 ·rw [a] at h;exact h
 have h:=a▸h;refine aH d (Et K c b ?_);refine fE (λa=>?_) λa=>?_
 ·rw [a] at h;exact h
 rw [a] at h;exact aH d (Et K c b h)
theorem Xr (K:Core T D){n r t:aB}(c:1<=n):∀e σ k rest Q X,e 0=ah (.e r)->PS σ r t (k::rest)->Q (.g (kW q4 k)) σ->ey T (bp T D n) YY e σ Q X:=by
 intro e σ k rest Q X d b h;have f:kW q4 k=(k.d [43]||k.d [45]):=by cases k<;>rfl
 rw [f] at h;refine aH d (Et K c b ?_);refine fE (λa=>?_) λa=>?_
 ·rw [a] at h;exact h
 rw [a] at h;exact aH d (Et K c b h)
theorem aav {N f l:aB}{b:ao cQ->PE}{p:Tx->bC}{c:E}(K:Core T D)(A:2<=N)(v:AZ T D l N Ex.d b)(w:T.a l=ah 0)
  (z:D f=ah ⟨1,(.a (.rA 1 (.w (.v 0) l .b)) (.a (.Lu c (MC l)) (.a (.CF (.v 1)) .b)))⟩)
  (j:∀{n r t:aB},1<=n->∀e σ k rest Q X,e 0=ah (.e r)->PS σ r t (k::rest)->Q (.g (kW p k)) σ->ey T (bp T D n) c e σ Q X) :
  AZ T D f (N+1) Ex.d (λts=>(b ts).g λq=>kC p b gC q.1 q.2):=by
 intro n i r t ts σ Q X y h;refine oE i λn i=>?_;have x:=ab (aT A) i;refine l4 _ z af ?_;refine fy v w i Tt.fM y h λq m d g a=>⟨gC,aaC K x i w v (j x) σ _ _ gC q.1 q.2 _ _ af af d g ?_⟩;revert a;unfold zp Tt;cases kC p b gC q.1 q.2 with
 |e F=>intro a C o B s u;exact aH B (a _ s u)
 |i=>intro a C o;exact a _
 |j=>exact id
theorem PJ (K:Core T D){N:aB}{a:ao cQ->PE}(c:2<=N)(b:AZ T D 8 N Ex.d a):AZ T D 7 (N+1) Ex.d (oP a):=aav K c b (K.b 8 af af) (K.e 7 af af) (Xq K)
theorem HQ (K:Core T D){N:aB}{a:ao cQ->PE}(b:2<=N)(c:AZ T D 8 N Ex.d a):AZ T D 6 (N+2) Ex.d (lp a):=aav K (b7 b) (PJ K b c) (K.b 7 af af) (K.e 6 af af) (Xr K)
theorem Jv (K:Core T D):∀d,AZ T D 8 (3*d+3) Ex.d (dM d):=by
 intro d
 induction d with
 |zero=>intro n H r t ts σ Q X u h;exact h.e
 |succ d I=>
  have J:=HQ K (rR (aa af)) I;intro n H r t ts σ Q X u h;obtain ⟨n,rfl⟩:=rJ (ab (aF 1 _) H);have C:3*d+3+2<=n:=aY (show 3*d+3+2+1<=n+1 from H);have y:2<=n:=ab (aF 2 _) C;have F:1<=n:=aT y;have L:=K.b 6 af af;refine bU (K.e 8 af af) af ?_;intro P O N M;refine gM K Tt.fM y u h (λe c a b h=>?_) λh=>?_
  ·refine fy I (K.b 8 af af) (ab (ak _ 2) C) Tt.fM a h λq i f g p=>?_;exact p _ f (b.cq g)
  refine gM K Tt.fM y u h (λe c a b h=>?_) λh=>?_
  ·refine fy J L C Tt.fM a h λq i f g p=>?_;exact en K Tt.fM y f p λe v j l o=>(o _ j ((b.cq g).cq l))
  refine gl ?_;intro V;cases ts with
  |nil=>exact h.e
  |cons k e=>
   refine pL u ?_;cases k with
   |c m=>exact FT K F u af λc a b=>h _ a b
   |b x=>
    refine FT K F u af λc a b=>(gM K Tt.fM y a h (λe i f g h=>?_) λh=>?_)
    ·refine fy J L C Tt.fM f h λq v j l o=>?_;exact en K Tt.fM y j o λe G z A B=>(B _ z (((b.cq g).cq l).cq A))
    ·exact h _ a b
   |a w=>exact mw K (next:=λx r=>R.j) Tt.fM F u h λx e c a b s=>s.e
   |e=>exact mw K (next:=λx r=>R.j) Tt.fM F u h λx e c a b s=>s.e
theorem yR (K:Core T D):AZ T D 6 41 Ex.d gW:=HQ K (aa af) (Jv K dE)
end
theorem fR.CL (k:fR r σ a)(b:o≠r)(h:σ[o]?=ah m):a[o]?=ah m:=by
 exact aA (k.2 o b (a7.g h).1) (aA h af)
theorem PS.lt (h:PS σ r t ts):r<σ.a/\t<σ.a:=by
 refine mO h λl p b a z=>?_;exact ⟨(a7.g b).1,(a7.g a).1⟩
theorem PS.GB (h:PS σ r t ts)(b:o≠r)(a:o≠t):PS (σ.w o m) r t ts:=by
 refine mO h λl p e d c=>?_;exact jf l p (aA (bA b) (aA e af)) (aA (bA a) (aA d af)) c
theorem cI {σ:a8}{o:aB}(h:σ[o]?=ah x):(σ++[m])[o]?=ah x:=by
 exact aA (cY (a7.g h).1) (aA h af)
theorem PS.GC (h:PS σ r t ts):PS (σ++[m]) r t ts:=by
 refine mO h λl p c b a=>?_;exact jf l p (cI c) (cI b) a
theorem fR.Ez (h:fR r σ₀ σ):fR r σ₀ (σ++[m]):=by
 refine ⟨ab h.1 (by refine aA ai ?_;exact ak _ _),λi b a=>?_⟩;exact aA (cY (aS a h.1)) (aA (h.2 i b a) af)
theorem fR.GD (h:fR r σ₀ σ)(b:σ₀.a<=o):fR r σ₀ (σ.w o m):=by
 refine ⟨by refine aA bX ?_;exact h.1,λi c a=>?_⟩;exact aA (bA (dW (aS a b))) (aA (h.2 i c a) af)
theorem eL {σ:a8}{o:aB}(h:σ[o]?=ah x):(σ.w o m)[o]?=ah m:=gT (a7.g h).1
theorem bO {σ:a8}{m:MO}:(σ++[m])[σ.a]?=ah m:=by simp
structure rL (r t o:aB)(σ₀ σ:a8)(l:ao AV):Prop where
 r:o≠r
 t:o≠t
 e:σ₀.a<=o
 c:σ[o]?=ah (.a l)
theorem rL.d {r t o:aB}{σ₀ σ a:a8}(h:rL r t o σ₀ σ l)(k:fR r σ a):rL r t o σ₀ a l:=⟨h.r,h.t,h.e,k.CL h.r h.c⟩
theorem rL.g {r t:aB}{σ₀ σ:a8}(p:PS σ r t ts)(k:fR r σ₀ σ):rL r t σ.a σ₀ (σ++[.a l]) l:=
 ⟨dW p.lt.1,dW p.lt.2,k.1,bO⟩
theorem rL.f {r t o:aB}{σ₀ σ:a8}(h:rL r t o σ₀ σ l):rL r t o σ₀ (σ.w o (.a l')) l':=⟨h.r,h.t,h.e,eL h.c⟩
theorem rL.j {r t o:aB}{σ₀ σ:a8}(h:rL r t o σ₀ σ l):rL r t o σ₀ (σ++[m]) l:=⟨h.r,h.t,h.e,cI h.c⟩
theorem wX (h:b=ax)(a:A):v8 (.g b) A B:=aA h a
theorem r0 (h:b=aw)(a:B):v8 (.g b) A B:=aA h a
section
variable {T:dt}{D:aB->aJ cO}
theorem Ro (K:Core T D):AZ T D 9 42 Ex.d oQ:=by
 have x:=yR K;intro n C r t J B Q X A h;refine oE C λn j=>?_;have u:2<=n:=ab (aa af) j;have z:=K.b 6 af af;refine bU (K.e 9 af af) af ?_;intro I H G F;refine gM K Tt.fM u A h (λa m e i h=>?_) λh=>?_
 ·refine en K Tt.fM u e h λa l d g h=>?_;refine fy x z j Tt.fM d h λq k c f h=>(en K Tt.fM u c h λa v o p h=>?_);exact h _ o (((i.cq g).cq f).cq p)
 refine fy x z j Tt.fM A h λq m e i h=>(Py K Tt.fM (aT u) e h λs a l d g h=>?_);refine b8 K.f ?_;have h:Tt Ex.d (match (generalizing:=false) AM s with
  |true=>(gW a).g λb=>.e (.c s q.1 b.1,b.2)
  |false=>.i) r t B Q λw=>X w:=h
 refine sY (λy=>?_) λy=>?_
 ·rw [show AM s=ax from y] at h;exact fy x z j Tt.fM d h λL k c f h=>(h _ c ((i.cq g).cq f))
 ·rw [show AM s=aw from y] at h;exact h _
theorem S3 (h:n<900000):n<gL:=cH h (aa af)
theorem aaD (h:n+(g+1)<=800000):n<gL:=aS (cX (cp g)) (ab h (aa af))
theorem Qa (K:Core T D){n N r t o:aB}{st:ao cQ->PT}(F:2<=n)(G:N<=n)(C:AZ T D 11 N St.K st)(σ₀:a8)(QQ:QF)(XX:XS) :
  ∀(g:aB) (b:ao AV) (ts:ao cQ) (e:Ev) (σ:a8),e 0=ah (.e r)->e 1=ah (.e o)->rL r t o σ₀ σ b->b.a+g<=800000->PS σ r t ts->fR r σ₀ σ->
   zp (iu st g ts) r t σ₀ (λq u i=>u 1=ah (.e o)/\i[o]?=ah (.a (b++q.d St.K))) QQ XX->
   qm (ey T (bp T D n) UT) (di T (bp T D n) UU) g e σ QQ XX:=by
 intro g
 induction g with
 |zero=>intro b ts e σ _ _ _ _ _ _ h;exact h.e
 |succ g B=>
  intro b ts e σ s p y z w x h;refine se ?_;intro H;refine aH s (gM K zp.rp F w h (λv m k f h=>?_) λh=>?_)
  ·refine aH p ?_;have c:=y.d f;refine bk c.c (aH s ?_);refine fy C (K.b 11 af af) G zp.rp k h λq l j d h=>?_;have a:=c.d d;refine bk a.c ⟨aaD z,?_⟩;refine B (b++[q.1.K]) q.2 _ _ s p a.f (aA ai (ab (aV (bo _ 1 _)) z)) (j.GB a.r a.t) (((x.cq f).cq d).GD a.e) ?_;revert h;unfold zp;cases iu st g q.2 with
   |e I=>intro h u i A;exact h u i (by rw [ag] at A;exact A)
   |i=>exact id
   |j=>exact id
  ·exact h _ _ ⟨p,by refine aA qy ?_;rw [bD];exact y.c⟩ w x
theorem Mb (K:Core T D){N:aB}{st:ao cQ->PT}(u:2<=N)(j:AZ T D 11 N St.K st):AZ T D 10 (N+1) (λs:St=>AV.f s.w2) (F8 st):=by
 intro n e r t A m Q X p h;refine oE e λn e=>?_;refine bU (K.e 10 af af) af ?_;intro z y x w;refine fy j (K.b 11 af af) e Tt.fM p h λq f b c a=>⟨gC,Qa K (ab u e) e j m _ _ gC [q.1.K] q.2 _ _ af af (rL.g b c) (show 401<=800000 by decide) b.GC c.Ez ?_⟩;revert a;unfold zp Tt R.g;cases iu st gC q.2 with
 |e o=>
  intro a v d k g i;refine aH k.1 (bk k.2 ?_);have l:Q (.f (qY q.1 o.1).w2) d:=a _ g i;rw [AI] at l;exact l
 |i=>intro a v d;exact a _
 |j=>exact id
end
section
variable {T:dt}{D:aB->aJ cO}
theorem mx.e {f:a->R b}(E:mx G X):mx (λres:R a=>G (res.g f)) X:=⟨λh=>E.d h,λh=>E.c h⟩
theorem NJ (K:Core T D)(A:41<=n)(σ₀:a8)(QQ:QF)(XX:XS)(F:Ev->Prop)(u:∀e,F e->e 0=ah (.e r))(s:∀e,F e->e 9=ah (.e o)) :
  ∀(g:aB) (b:ao AV) (ts:ao cQ) (e:Ev) (σ:a8),F e->rL r t o σ₀ σ b->b.a+g<=800000->PS σ r t ts->fR r σ₀ σ->
   zp (kD g ts) r t σ₀ (λq v i=>F v/\rL r t o σ₀ i (b++q.d Ex.d)) QQ XX->
   qm (ey T (bp T D n) UQ) (di T (bp T D n) UR) g e σ QQ XX:=by
 intro g
 induction g with
 |zero=>intro b ts e σ _ _ _ _ _ h;exact h.e
 |succ g G=>
  intro b ts e σ j z B x y h;have C:=u e j;refine aH C (gM K zp.rp (ab (aa af) A) x h (λw p l f h=>?_) λh=>?_)
  ·refine mq ?_;intro H;refine aH (s e j) ?_;have c:=z.d f;refine bk c.c (aH C ?_);refine fy (yR K) (K.b 6 af af) A zp.rp l h λq m k d h=>?_;have a:=c.d d;refine bk a.c ⟨aaD B,?_⟩;refine G (b++[q.1.d]) q.2 _ _ j a.f (aA ai (ab (aV (bo _ 1 _)) B)) (k.GB a.r a.t) (((y.cq f).cq d).GD a.e) ?_;revert h;unfold zp;cases kD g q.2 with
   |e I=>intro h v i j;exact h v i (by rw [ag] at j;exact j)
   |i=>exact id
   |j=>exact id
  ·exact h _ _ ⟨j,by refine aA qy ?_;rw [bD];exact z⟩ x y
theorem PQ (K:Core T D):∀d,AZ T D 11 (2*d+43) St.K (dy d):=by
 have ie:=yR K;have ic:=Ro K;intro d
 induction d with
 |zero=>intro n hn r t ts σ Q X V h;exact h.e
 |succ d ih=>
  have ir:=Mb K (ab (aa af) (aF 43 (2*d))) ih;intro n hn r t ts σ Q X V h;obtain ⟨n,rfl⟩:=rJ (ab (aF 1 _) hn);have n44:2*d+43+1<=n:=aY (show 2*d+43+1+1<=n+1 from hn);have Z:=aT n44;have n42:42<=n:=ab (ab (by decide:42<=44) (aF 44 (2*d))) n44;have O:=aT n42;have I:2<=n:=ab (aa af) n42;have c6:=K.b 6 af af;have c9:=K.b 9 af af;have c10:=K.b 10 af af;have c11:=K.b 11 af af;refine bU (K.e 11 af af) af ?_;intro zC zE zQ zX;refine gM K Tt.fM I V h (λg F v w h=>?_) λh=>?_
  ·refine mq ?_;intro q9;refine fy ic c9 n42 Tt.fM v h λc C j p h=>?_;refine en K Tt.fM I j h λg A u o h=>(fy ih c11 Z Tt.fM u h λa H y z h=>?_);have k':=((w.cq p).cq o).cq z;refine gd ?_;intro e9;refine gM K Tt.fM I y h (λg P J L h=>?_) λh=>?_
   ·refine fy ih c11 Z Tt.fM J h λb N G B h=>?_;exact h _ G ((k'.cq L).cq B)
   ·exact h _ y k'
  refine gM K Tt.fM I V h (λg F v w h=>?_) λh=>?_
  ·refine fy ic c9 n42 Tt.fM v h λc C j p h=>?_;refine en K Tt.fM I j h λg A u o h=>?_;refine fy ih c11 Z Tt.fM u h λa H y z h=>?_;exact h _ y (((w.cq p).cq o).cq z)
  refine mq ?_;intro q9;refine gM K Tt.fM I V h (λg F v w h=>?_) λh=>?_
  ·refine fy ir c10 n44 Tt.fM v h λc C j p h=>?_;refine en K Tt.fM I j h λg A u o h=>(fy ic c9 n42 Tt.fM u h λa H y z h=>?_);exact h _ y (((w.cq p).cq o).cq z)
  refine gM K Tt.fM I V h (λg F v w h=>?_) λh=>?_
  ·refine mw K Tt.fM (aT I) v h λx g C j p h=>?_;refine mq ?_;intro q9;refine gd ?_;intro e9;refine en K Tt.fM I j h λg A u o h=>(fy ie c6 O Tt.fM u h λa H y z h=>?_);have k':=((w.cq p).cq o).cq z;refine gM K Tt.fM I y h (λg P J L h=>?_) λh=>?_
   ·refine fy ie c6 O Tt.fM J h λb N G B h=>?_;refine gd ?_;intro e9;refine en K Tt.fM I G h λg σ₇ Y k₇ h=>(fy ih c11 Z Tt.fM Y h λs σ₈ W k₈ h=>?_);exact h _ W ((((k'.cq L).cq B).cq k₇).cq k₈)
   ·refine en K Tt.fM I y h λg P J L h=>?_;refine fy ie c6 O Tt.fM J h λb N G B h=>(en K Tt.fM I G h λg σ₇ Y k₇ h=>?_);exact fy ih c11 Z Tt.fM Y h λs σ₈ W k₈ h=>(h _ W ((((k'.cq L).cq B).cq k₇).cq k₈))
  refine gM K Tt.fM I V h (λg F v w h=>?_) λh=>?_
  ·refine fy ir c10 n44 Tt.fM v h λc C j p h=>?_;exact en K Tt.fM I j h λg A u o h=>(h _ u ((w.cq p).cq o))
  refine gM K Tt.fM I V h (λg F v w h=>?_) λh=>?_
  ·refine en K Tt.fM I v h λg C j p h=>?_;refine mq ?_;intro q9;refine fy ie c6 O Tt.fM j h λa A u o h=>(en K Tt.fM I u h λg H y z h=>?_);exact h _ y (((w.cq p).cq o).cq z)
  refine gl ?_;intro g9;cases ts with
  |nil=>exact h.e
  |cons k g=>
   refine pL V ?_;cases k with
   |b x=>
    refine mq ?_;intro q9;refine FT K (aT I) V af λF v w=>(gM K Tt.fM I v h (λg C j p h=>?_) λh=>?_)
    ·refine fy ie c6 O Tt.fM j h λb A u o h=>?_;exact h _ u ((w.cq p).cq o)
    refine gd ?_;intro e9;refine gM K Tt.fM I v h (λg C j p h=>?_) λh=>?_
    ·refine mq ?_;intro q9;refine fy ie c6 O Tt.fM j h λi A u o h=>?_;refine en K Tt.fM I u h λg H y z h=>(en K Tt.fM I y h λg P J L h=>?_);exact fy ie c6 O Tt.fM J h λb N G B h=>(h _ G (((((w.cq p).cq o).cq z).cq L).cq B))
    have ho:=rL.g (l:=[]) v w;have j:=v.GC (m:=.a []);have p:=w.Ez (m:=.a []);unfold Hz at h;have E':=mx.e (f:=λq:ao Ex×ao cQ=>R.e (St.ip x q.1,q.2)) (Tt.fM (enc:=St.K) (r:=r) (t:=t) (σ₀:=σ) (Q:=Q) (X:=X));refine gM K E' I j h (λg A u o h=>?_) λh=>?_
    ·have ho₃:=ho.d o;refine mq ?_;intro q9;refine bk ho₃.c (fy ie c6 O E' u h λb H y z h=>?_);have M:=ho₃.d z;refine bk M.c ⟨by decide,?_⟩;refine ⟨gC,NJ K O σ _ _ (λe=>e 0=ah (.e r)/\e 4=ah (.c x)/\e 9=ah (.e F.a)) (λe h=>h.1) (λe h=>h.2.2) gC [b.1.d] b.2 _ _ (dX af af af) M.f (show 401<=800000 by decide) (y.GB M.r M.t) (((p.cq o).cq z).GD M.e) ?_⟩;revert h;unfold zp;cases kD gC b.2 with
     |e q'=>
      intro h e' σ' hF ps' kp';refine gl ?_;intro g9;obtain ⟨⟨f0,f4,f9⟩,oo⟩:=hF;refine aH f0 (en K E' I ps' h λg N G B h=>?_);refine aH f4 (aH f9 ?_);exact bk (oo.d B).c (h _ G (kp'.cq B))
     |i=>intro h e' σ';exact h _
     |j=>exact id
    ·refine bk ho.c ?_;exact h _ j p
   |c m=>exact h _ V (fR.oW _ _)
   |a m=>exact h _ V (fR.oW _ _)
   |e=>exact h _ V (fR.oW _ _)
theorem LX (K:Core T D):AZ T D 10 72 (λs:St=>AV.f s.w2) yS:=Mb K (aa af) (PQ K dS)
end
section
variable {T:dt}{D:aB->aJ cO}
theorem zp.map {d g:Type}{m:R (d×ao cQ)}{f:d->g}{F:g->Ev->a8->Prop}{i:d->Ev->a8->Prop}
  (h:zp (m.g λq=>.e (f q.1,q.2)) r t σ₀ F QQ XX) (c:∀a e σ,i a e σ->F (f a) e σ):zp m r t σ₀ i QQ XX:=by
 cases m with
 |e q=>exact λk b j=>h k b (c _ _ _ j)
 |i=>exact h
 |j=>exact h
theorem zp.of {d g:Type}{m:R (d×ao cQ)}{f:d×ao cQ->R g}{G:R g->Prop}{F:d->Ev->a8->Prop}(E:∀e,mx G (XX e))(h:G (m.g f))
  (c:∀q b a,F q.1 b a->PS a r t q.2->fR r σ₀ a->G (f q)->QQ .a b a):zp m r t σ₀ F QQ XX:=by
 cases m with
 |e q=>exact λb a k j i=>c q b a k j i h
 |i=>exact λb a=>(E b).d h a
 |j=>exact ((E λz=>.s).c h).e
theorem rL.i {r t o:aB}(h:rL r t o σ₀ σ (l++a++b)):rL r t o σ₀ σ (l++(a++b)):=dw (ag l a b) h
theorem rL.n {r t o:aB}(h:rL r t o σ₀ σ l):rL r t o σ₀ σ (l++[]):=aA (bD l) h
theorem WA {a:Type}{l:ao a}{x:a}(h:l.a+(g+1)<=m):(l++[x]).a+g<=m:=by
 refine aA ai ?_;exact ab (aV (bo _ 1 _)) h
theorem lt9 {a:Type}{l:ao a}(h:l.a+(g+1)<=800000):l.a<gL:=aS (aS (cX (cp g)) h) (aa af)
theorem Jp (K:Core T D)(z:2<=n)(σ₀:a8)(QQ:QF)(XX:XS)(e:Ev)(B:e 0=ah (.e r))(F:e 3=ah (.e o)) :
  ∀(g:aB) (c:ao AV) (ts:ao cQ) (σ:a8),rL r t o σ₀ σ c->c.a+g<=800000->PS σ r t ts->fR r σ₀ σ->
   zp (BY g ts) r t σ₀ (λq G s=>G=e/\q.a<=g/\rL r t o σ₀ s (c++q.d AV.c)) QQ XX->
   qm (ey T (bp T D n) UM) (di T (bp T D n) UO) g e σ QQ XX:=by
 intro g
 induction g with
 |zero=>intro c ts σ _ _ _ _ h;exact h.e
 |succ g C=>
  intro c ts σ u A w y h;refine se ?_;intro H;refine aH B (gM K zp.rp z w h (λi p l d h=>?_) λh=>?_)
  ·refine aH F ?_;refine bk (u.d d).c (aH B ?_);refine mw K zp.rp (aT z) l h λx i m k j h=>?_;have b:=(u.d d).d j;refine bk b.c ⟨lt9 A,?_⟩;exact C (c++[.c x]) i _ b.f (WA A) (k.GB b.r b.t) (((y.cq d).cq j).GD b.e) (zp.map (f:=λa=>x::a) h λa e σ v=>dX v.1 (az v.2.1) (v.2.2.i (a:=[.c x])))
  ·exact h _ _ (dX af (bG _) u.n) w y
noncomputable def El:Ss:=(.a (.oM (.w (.v 0) 3 (.a (.h [105,110,116,101,103,101,114]) .b))) (.a (.oM (.w (.v 0) 3 (.a (.h [59]) .b))) (.a (.Sw 1 .a (.K 4 (.v 3))) (.a (.vj (.q .d (.l (.l (.D (.v 0) .ts) (.D (.v 0) .A5)) (.d 0)) (.h [110,97,109,101])) (.a .Pu .b) .b) .b))))
theorem Qx (z:aJ aB):∀xs:ao Tx,((xs.d AV.c).d λx=>AV.f [x,Ga z])=(xs.d λx=>(x,z)).d Au:=by
 intro b
 induction b with
 |nil=>
  exact af
 |cons x xs a=>
  exact aW (_::·) (a)
theorem Ek (K:Core T D){n r t o p:aB}{k:ao (Tx×aJ aB)×ao cQ->R β}(I:2<=n)
  (E:∀e,mx G (XX e)) (y:e 0=ah (.e r)) (h1:e 1=ah (.e p)) (Z:e 3=ah (.e o)) (Y:e 4=ah (Ga z)) (P:rL r t p σ₀ σ s) (O:rL r t o σ₀ σ (xs.d AV.c)) (W:p≠o) (L:PS σ r t ts) (M:fR r σ₀ σ) (w:s.a+xs.a<=900000)
  (h:G ((BZ xs z ts).g k))
  (c:∀q g,PS g r t q.2->fR r σ₀ g->rL r t p σ₀ g (s++q.1.d Au)->q.1.a=xs.a->(∀i m,i≠p->i≠r->σ[i]?=ah m->g[i]?=ah m)->G (k q)->∀A,(∀i,i≠1->A i=e i)->A 1=ah (.e p)->
   (match q.2 with
    |[]=>cR
    |.b _::_=>QQ .a A g
    |_::_=>QQ .c A g)) :
  di T (bp T D n) El e σ QQ XX:=by
 have J:=λe=>mx.e (f:=k) (E e);refine aH y (en K (J _) I L h λl C v d h=>?_);refine aH y (en K (J _) I v h λl B u b h=>?_);have a:=(P.d d).d b;refine aH h1 (aH Z ?_);refine bk ((O.d d).d b).c (aH Y ?_);rw [Qx];refine bk (cI a.c) (bk bO (dX (b5 (a7.g a.c).1) ?_ ?_))
 ·rw [ay,ay];exact ab w (aa af)
 have H:=(u.GC (m:=.a ((xs.d λx=>(x,z)).d Au))).GB (m:=.a (s++(xs.d λx=>(x,z)).d Au)) a.r a.t;have j:=c (xs.d (λx=>(x,z)),l) _ H ((((M.cq d).cq b).Ez).GD a.e) a.j.f (ay _) (λi m F V X=>by
  refine aA (bA (gJ F)) ?_;exact cI ((d.cq b).CL V X)) h (bu e 1 (.e p)) (λi F=>by
   show kr (aM i 1) _ _=_;cases q:aM i 1
   ·rfl
   ·exact bZ (aD q) F) af
 refine aH (e:=bu e 1 _) (i:=0) y ?_;refine gl ?_;intro g9;cases l with
 |nil=>exact j.e
 |cons N rs=>
  refine Mp (e:=bu e 1 _) y H ?_;cases N<;>exact j
theorem Lx (K:Core T D){n r t P Z:aB}(W:2<=n)(σ₀:a8)(QQ:QF)(XX:XS)(hne:Z≠P)(hop:Z≠r) :
  ∀(g:aB) (s:ao AV) (ts:ao cQ) (e:Ev) (σ:a8),e 0=ah (.e r)->e 1=ah (.e P)->rL r t P σ₀ σ s->σ[Z]?=ah (.a [])->s.a+500*g<=500000->PS σ r t ts->fR r σ₀ σ->
   zp (AE g ts) r t σ₀ (λq j d=>j 0=ah (.e r)/\j 1=ah (.e P)/\j 2=e 2/\rL r t P σ₀ d (s++q.d Au)/\d[Z]?=ah (.a [])) QQ XX->
   qm (ey T (bp T D n) KL) (di T (bp T D n) KO) g e σ QQ XX:=by
 intro g
 induction g with
 |zero=>intro s ts e σ _ _ _ _ _ _ _ h;exact h.e
 |succ g ih=>
  intro s ts e σ G h1 hv hp hl ps kp h;refine se ?_;intro w9;have h1':1<=n:=aT W;let C:ao (Tx×aJ aB)->Ev->a8->Prop:=λq j d=>j 0=ah (.e r)/\j 1=ah (.e P)/\j 2=e 2/\rL r t P σ₀ d (s++q.d Au)/\d[Z]?=ah (.a []);have h:zp (AE (g+1) ts) r t σ₀ C QQ XX:=h;have X:=λj:Ev=>mx.e (f:=F7 (AE g)) (zp.rp (r:=r) (t:=t) (σ₀:=σ₀) (F:=C) (QQ:=QQ) (XX:=XX) (e:=j));refine aH G (mw K (X _) h1' ps h λx b c O w h=>?_);have A:=kp.cq w;have B:=hv.d w;refine ⟨gC,Jp K W c _ _ (bu e 3 (.e c.a)) G af gC [AV.c x] b _ (rL.g (l:=[AV.c x]) O (fR.oW r c)) (show 401<=800000 by decide) O.GC (fR.oW r c).Ez ?_⟩;refine zp.of X h λq e₂ o hF p₂ k₂ h=>?_;refine vf hF λe90 hq p=>?_;subst e90;refine aH (e:=bu e 3 _) (i:=0) G (en K (X _) W p₂ h λb Y N V h=>?_);have fin:∀(j:Ev) d (z:aJ aB) b,PS d r t b->fR r Y d->j 0=ah (.e r)->j 1=ah (.e P)->j 2=e 2->j 3=ah (.e c.a)->j 4=ah (Ga z)->
    zp ((BZ (x::q.1) z b).g (F7 (AE g))) r t σ₀ C QQ XX->
    di T (bp T D n) El j d (λf j o=>match f with
     |.a|.d=>qm (ey T (bp T D n) KL) (di T (bp T D n) KO) g j o QQ XX
     |.c=>QQ .a j o
     |.b v=>QQ (.b v) j o) XX:=by
   intro j d z b p' k' g0 g1 g2 g3 g4 h;have kz:=(k₂.cq V).cq k';have hlq:(x::q.1).a<=401:=az hq;refine Ek K W (λe=>zp.rp) g0 g1 g3 g4 (B.d kz) (xs:=x::q.1) ⟨p.r,p.t,A.1,(V.cq k').CL p.r p.c⟩ (b5 (a7.g B.c).1) p' (A.cq kz) (ab (aL (ab (ak _ _) hl) hlq) (aa af)) h ?_;intro v M H J I hlen keep hG e'' he L;have u:M[Z]?=ah (.a []):=keep Z _ hne hop ((w.cq kz).CL hop hp);have f0:=(he 0 (by decide)).b g0;have f2:=(he 2 (by decide)).b g2;rcases v with ⟨v1,_|⟨k,rs⟩⟩
   ·exact hG.e
   ·cases k with
    |b y=>
     refine ih (s++v1.d Au) _ e'' M f0 L I u (ab (aV ((aW (·+_) (ai.b (aW _ ((ay _).b hlen)))).b (bW _ _ _))) (ab (ar (ab (aj (ab hlq (aa af)) _) (aV (cv 500 (500*g)))) _) hl)) H J ?_;exact zp.map (f:=λa=>v1++a) hG λa e σ hF=>lP hF.1 hF.2.1 (hF.2.2.1.b f2) (by refine aA cw ?_;exact hF.2.2.2.1.i) hF.2.2.2.2
    |a y=>exact hG _ _ (lP f0 L f2 I u) H J
    |c y=>exact hG _ _ (lP f0 L f2 I u) H J
    |e=>exact hG _ _ (lP f0 L f2 I u) H J
  refine aH (e:=bu (bu e 3 _) 4 _) (i:=0) G (gM K (X _) W N h (λb σ₄ p₄ k₄ h=>?_) λh=>?_)
  ·refine aH (e:=bu (bu e 3 _) 4 _) (i:=0) G ?_;refine en K (X _) W p₄ h λb σ₅ p₅ k₅ h=>(aH (e:=bu (bu e 3 _) 4 _) (i:=0) G ?_);refine WY K (X _) h1' p₅ h λm b σ₆ p₆ k₆ h=>(aH (e:=bu (bu (bu e 3 _) 4 _) 4 _) (i:=0) G ?_);refine en K (X _) W p₆ h λb σ₇ p₇ k₇ h=>(aH (e:=bu (bu (bu e 3 _) 4 _) 4 _) (i:=0) G ?_);exact en K (X _) W p₇ h λb σ₈ p₈ k₈ h=>(fin _ _ (ah m) b p₈ ((((k₄.cq k₅).cq k₆).cq k₇).cq k₈) G h1 af af af h)
  ·exact fin _ _ aq b N (fR.oW _ _) G h1 af af af h
end
section
variable {T:dt}{D:aB->aJ cO}
theorem dG (i:aB)(h:i≠j):bu e j v i=e i:=by
 show kr (aM i j) _ _=_;cases q:aM i j
 ·rfl
 ·exact bZ (aD q) h
theorem F6 (K:Core T D)(L:2<=n)(σ₀:a8)(QQ:QF)(XX:XS) :
  ∀(g:aB) (s:ao AV) (ts:ao cQ) (e:Ev) (σ:a8),e 0=ah (.e r)->e 6=ah (.e o)->rL r t o σ₀ σ s->s.a+g<=800000->PS σ r t ts->fR r σ₀ σ->
   zp (rD g ts) r t σ₀ (λq N B=>(∀i,i≠7->N i=e i)/\rL r t o σ₀ B (s++q.d xl)) QQ XX->
   qm (ey T (bp T D n) UN) (di T (bp T D n) UP) g e σ QQ XX:=by
 intro g
 induction g with
 |zero=>intro s ts e σ _ _ _ _ _ _ h;exact h.e
 |succ g Z=>
  intro s ts e σ G M J P O Y h;have F:=aT L;let A:ao (Tx×bC)->Ev->a8->Prop:=λq N B=>(∀i,i≠7->N i=e i)/\rL r t o σ₀ B (s++q.d xl);have h:zp (rD (g+1) ts) r t σ₀ A QQ XX:=h;refine se ?_;intro X;have H:∀(x:Tx) (b:bC) c d,PS d r t c->fR r σ d->
    zp (My (rD g) (x,b) c) r t σ₀ A QQ XX->
    kL o d λl=>l.a<gL/\di T (bp T D n) (.a (.vj (.G (.w (.v 0) 4 (.a (.h [44]) .b))) (.a .Pu .b) .b) .b) (bu e 7 (.g b)) (d.w o (.a (l++[.f [.c x,.g b]]))) X XX:=by
   intro x b c d w u h;have j:=J.d u;refine bk j.c ⟨lt9 P,?_⟩;have k:=w.GB (m:=.a (s++[.f [.c x,.g b]])) j.r j.t;have p:=(Y.cq u).GD (m:=.a (s++[.f [.c x,.g b]])) j.e;have y:=j.f (l':=s++[.f [.c x,.g b]]);refine aH (e:=bu e 7 _) (i:=0) G (gM K zp.rp L k h (λc I C z h=>?_) λh=>?_)
   ·exact Z _ c _ _ G M (y.d z) (WA P) C (p.cq z) (zp.map (f:=λa=>(x,b)::a) h λa e σ W=>⟨λi V=>(W.1 i V).b (dG i V),W.2.i (a:=[.f [.c x,.g b]])⟩)
   ·exact h _ _ ⟨dG,y⟩ k p
  refine mq ?_;intro q9;refine gd ?_;intro e9;refine aH G (gM K zp.rp L O h (λc d w u h=>?_) λh=>?_)
  ·refine aH (e:=bu e 7 _) (i:=6) M ?_;refine bk (J.d u).c (aH (e:=bu e 7 _) (i:=0) G ?_);exact mw K zp.rp F w h λx c v k p h=>(H x ax c v k (u.cq p) h)
  ·refine aH (e:=bu e 7 _) (i:=6) M ?_;refine bk J.c (aH (e:=bu e 7 _) (i:=0) G ?_);exact mw K zp.rp F O h λx c v k p h=>(H x aw c v k p h)
noncomputable def DU:Ss:=(.a (.oM (.w (.v 0) 3 (.a (.h [59]) .b))) (.a (.rA 8 (.w (.v 0) 12 .b)) (.a (.oM (.w (.v 0) 3 (.a (.h [59]) .b))) (.a (.oM (.t (.v 2) .a (.a (.p (.a (.v 5) (.a (.r .b (.a (.v 6) .b)) (.a (.v 8) .b)))) .b))) .b))))
theorem DT (K:Core T D){w:ao cQ->PB}{k:(Tx×ao (Tx×bC)×Bl)×ao cQ->R β}(J:2<=n)(hN:N<=n)(hb:AZ T D 12 N Bl.f w)
  (E:∀e,mx G (XX e)) (H:e 0=ah (.e r)) (h2:e 2=ah (.e F)) (h5:e 5=ah (.c x)) (h6:e 6=ah (.e O)) (X:rL r t F σ₀ σ y) (W:rL r t O σ₀ σ (qs.d xl)) (M:PS σ r t ts) (P:fR r σ₀ σ) (v:y.a<gL)
  (h:G ((BX w x qs ts).g k))
  (c:∀q d,PS d r t q.2->fR r σ₀ d->rL r t F σ₀ d (y++[.f [.c q.1.1,.f (q.1.2.1.d xl),q.1.2.2.f]])->(∀i m,i≠F->i≠r->σ[i]?=ah m->d[i]?=ah m)->G (k q)->∀L,(∀i,i≠8->L i=e i)->QQ .a L d) :
  di T (bp T D n) DU e σ QQ XX:=by
 have I:=λe=>mx.e (f:=k) (E e);refine aH H (en K (I _) J M h λg C o u h=>?_);refine aH H (fy hb (K.b 12 af af) hN (I _) o h λb B l s h=>?_);refine gd ?_;intro e9;refine aH (e:=bu e 8 _) (i:=0) H (en K (I _) J l h λg A j p h=>?_);have z:=(u.cq s).cq p;have a:=X.d z;refine aH (e:=bu e 8 _) (i:=2) h2 (bk a.c ?_);refine aH (e:=bu e 8 _) (i:=5) h5 (aH (e:=bu e 8 _) (i:=6) h6 ?_);refine bk (W.d z).c (bk a.c ⟨v,?_⟩);exact c ((x,qs,b.1),g) _ (j.GB a.r a.t) ((P.cq z).GD a.e) a.f (λi m Z V Y=>(bA (gJ Z)).b (z.CL V Y)) h _ dG
theorem Jm (K:Core T D){j:ao cQ->PB}(H:2<=n)(hN:N<=n)(hb:AZ T D 12 N Bl.f j)(σ₀:a8)(QQ:QF)(XX:XS)(hne:B≠O)(C:O≠r)(mv:MO) :
  ∀(g:aB) (k:ao AV) (ts:ao cQ) (e:Ev) (σ:a8),e 0=ah (.e r)->e 2=ah (.e B)->rL r t B σ₀ σ k->σ[O]?=ah mv->k.a+g<=800000->PS σ r t ts->fR r σ₀ σ->
   zp (vv j g ts) r t σ₀ (λq i d=>i 0=ah (.e r)/\i 1=e 1/\i 2=ah (.e B)/\rL r t B σ₀ d (k++q.k)/\d[O]?=ah mv) QQ XX->
   qm (ey T (bp T D n) KN) (di T (bp T D n) KP) g e σ QQ XX:=by
 intro g
 induction g with
 |zero=>intro k ts e σ _ _ _ _ _ _ _ h;exact h.e
 |succ g ih=>
  intro k ts e σ h0 h2 hp hv hl ps kp h;let o:Bl->Ev->a8->Prop:=λq i d=>i 0=ah (.e r)/\i 1=e 1/\i 2=ah (.e B)/\rL r t B σ₀ d (k++q.k)/\d[O]?=ah mv;have h:zp (vv j (g+1) ts) r t σ₀ o QQ XX:=h;refine se ?_;intro zW;refine en1 e h0 ?_;intro z;refine (gM K zp.rp H ps h (λc σ₁ M V h=>?_) λh=>?_)
  ·refine mq ?_;intro q9;refine ?_;refine mw K zp.rp (aT H) M h λx c b v P h=>?_;have p:=V.cq P;have oq:=rL.g (l:=[]) v (fR.oW r b);have E':=λi:Ev=>mx.e (f:=F9 (vv j g)) (zp.rp (r:=r) (t:=t) (σ₀:=σ₀) (F:=o) (QQ:=QQ) (XX:=XX) (e:=i));have Z:∀(i:Ev) d (qs:ao (Tx×bC)) c,PS d r t c->fR r b d->rL r t b.a b d (qs.d xl)->i 0=ah (.e r)->i 1=z 1->i 2=ah (.e B)->i 5=ah (.c x)->i 6=ah (.e b.a)->
     zp ((BX j x qs c).g (F9 (vv j g))) r t σ₀ o QQ XX->di T (bp T D n) DU i d zW XX:=by
    intro i d qs c p' X o' Y g1 g2 g5 g6 h;refine DT K H hN hb (λz=>zp.rp) Y g2 g5 g6 ((hp.d p).d X) ⟨o'.r,o'.t,(kp.cq p).1,o'.c⟩ p' ((kp.cq p).cq X) (lt9 hl) h ?_;intro q I p'' k'' o'' W hG e'' s;exact ih _ q.2 e'' I ((s 0 (by decide)).b Y) ((s 2 (by decide)).b g2) o'' (W O mv (gJ hne) C (X.CL C (p.CL C hv))) (WA hl) p'' k'' (zp.map (f:=λa=>Bl.g q.1.1 q.1.2.1 q.1.2.2 a) hG λa z σ G=>lP G.1 (G.2.1.b ((s 1 (by decide)).b g1)) G.2.2.1 G.2.2.2.1.i G.2.2.2.2)
   have u:=v.GC (m:=.a []);have A:fR r b (b++[MO.a []]):=(fR.oW r b).Ez;refine (gM K (E' _) H u h (λc σ₄ L y h=>?_) λh=>?_)
   ·refine ⟨gC,F6 K H b _ _ gC [] c (bu (bu z 5 (.c x)) 6 (.e b.a)) _ af af (oq.d y) (show 400<=800000 by decide) L (A.cq y) ?_⟩;refine zp.of E' h λq i d G p' X h=>?_;obtain ⟨s,oo⟩:=G;have Y:=(s 0 (by decide)).b af;refine aH Y (en K (E' _) H p' h λc σ₅ J w h=>?_);exact Z i _ q.1 c J (X.cq w) (oo.d w) Y (s 1 (by decide)) ((s 2 (by decide)).b h2) (s 5 (by decide)) (s 6 (by decide)) h
   ·exact Z _ _ [] c u A oq af af h2 af af h
  ·exact h _ _ (lP af af h2 hp.n hv) ps kp
noncomputable def Jy:Ss:=(.a (.Lu KN KP) (.a (.oM (.w (.v 0) 3 (.a (.h [98,101,103,105,110]) .b))) (.a (.rA 9 (.w (.v 0) 10 .b)) (.a (.oM (.w (.v 0) 3 (.a (.h [101,110,100]) .b))) (.a (.CF (.p (.a (.h [98,108,111,99,107]) (.a (.r .b (.a (.v 1) .b)) (.a (.r .b (.a (.v 2) .b)) (.a (.v 9) .b)))))) .b)))))
theorem uB (K:Core T D){m:ao cQ->PB}(G:72<=n)(Y:N<=n)(P:AZ T D 12 N Bl.f m)
  (h0:e 0=ah (.e r)) (h1:e 1=ah (.e C)) (Z:e 2=ah (.e F)) (z:rL r t C σ₀ σ (vs.d Au)) (O:rL r t F σ₀ σ []) (A:F≠C) (I:PS σ r t ts) (L:fR r σ₀ σ)
  (h:Tt Bl.f (B0 m vs ts) r t σ₀ Q X) (W:∀v e σ,Q v σ->QQ (.b v) e σ) (V:∀e σ,X σ->XX e σ):di T (bp T D n) Jy e σ QQ XX:=by
 have a:∀e,mx (λw:R (Bl×ao cQ)=>Tt Bl.f w r t σ₀ Q X) (XX e):=λe=>⟨λh σ=>V e σ (h σ),λh=>h⟩;have x:2<=n:=ab (aa af) G;refine ⟨gC,Jm K x Y P σ₀ _ _ A z.r _ gC [] ts e σ h0 Z O z.c (show 400<=800000 by decide) I L ?_⟩;refine zp.of a h λq B H b J M h=>(aH b.1 ?_);refine en K (a _) x J h λc u g l h=>(aH b.1 ?_);refine fy (LX K) (K.b 10 af af) G (a _) g h λs p f k h=>(aH (e:=bu B 9 _) (i:=0) b.1 ?_);refine en K (a _) x f h λc o d j h=>?_;have y:=(l.cq k).cq j;refine gd ?_;intro e9;refine aH (e:=bu B 9 _) (i:=1) (b.2.1.b h1) (bk (y.CL z.r b.2.2.2.2) ?_);refine aH (e:=bu B 9 _) (i:=2) b.2.2.1 (bk (b.2.2.2.1.d y).c ?_);exact W _ _ _ (h _ d (M.cq y))
theorem ND (K:Core T D):∀d,AZ T D 12 (d+73) Bl.f (B1 d):=by
 intro d
 induction d with
 |zero=>intro n s r t C a Q X z h;exact h.e
 |succ d A=>
  intro n s r t C a Q X z h;obtain ⟨n,rfl⟩:=rJ (ab (aF 1 _) s);have s:d+73<=n:=aY (ab (aV (bo d 73 1)) s);have f:72<=n:=ab (ab (aa af) (aF 73 d)) s;refine bU (K.e 12 af af) af ?_;intro L J I H;have i:=z.GC (m:=.a []);have k:fR r a (a++[MO.a []]):=(fR.oW r a).Ez;have o:=rL.g (l:=[]) i k;have b:=(rL.g (l:=[]) z (fR.oW r a)).j (m:=.a []);have g:=i.GC (m:=.a []);have j:=k.Ez (m:=.a []);have p:(a++[MO.a []]).a≠a.a:=aA ai (dW (cA _));refine gM K Tt.fM (ab (by decide) f) g h (λu y w c h=>?_) λh=>?_
  ·refine ⟨gC,Lx K (ab (by decide) f) a _ _ p o.r gC [] u _ _ af af (b.d c) (c.CL o.r o.c) (show 200000<=500000 by decide) w (j.cq c) ?_⟩;exact zp.of (λe=>Tt.fM) h λv M B x F G h=>(uB K f s A x.1 x.2.1 x.2.2.1 x.2.2.2.1 ⟨o.r,o.t,o.e,x.2.2.2.2⟩ p F G h (λv e a q=>q) (λe a q=>q))
  ·exact uB K f s A af af af b o p g j h (λv e a q=>q) (λe a q=>q)
end
noncomputable def kE (c:aB):bC:=gP c||eE c
noncomputable def yI:ao aB:=[43,45,42,61,60,62,40,41,91,93,44,59,58,46]
noncomputable def wh:ao AV:=[.c [58,61],.c [60,62],.c [60,61],.c [62,61]]
noncomputable def BF:ao AV:=Lv.d .c
noncomputable def mF:Tx->bC
 |[]=>aw
 |c::_=>gP c
noncomputable def oA (c:aB):Tx->aJ Tx
 |[]=>aq
 |d::l=>match aM d c with
  |true=>ah l
  |false=>oA c l
noncomputable def Wz (c:aB)(l:Tx):R (aJ cQ×Tx):=match mF ((c::l).V eE) with
 |true=>.i
 |false=>match bM ((c::l).G eE).a 600 with
  |true=>.e (ah (.c (ma ((c::l).G eE))),(c::l).V eE)
  |false=>.j
noncomputable def D6 (c:aB)(l:Tx):R (aJ cQ×Tx):=match cF ((c::l).K 2) wh with
 |true=>.e (ah (.a ((c::l).K 2)),l.m 1)
 |false=>match d0 c yI with
  |true=>.e (ah (.a [c]),l)
  |false=>.i
noncomputable def Wy (w r:Tx):R (aJ cQ×Tx):=.e (ah (match cF w BF with
 |true=>cQ.a w
 |false=>cQ.b w),r)
noncomputable def qr (c:aB)(l:Tx):R (aJ cQ×Tx):=match d0 c [32,10] with
 |true=>.e (aq,l)
 |false=>match aM c 123 with
 |true=>(match oA 125 l with
  |aq=>.i
  |some a=>.e (aq,a))
 |false=>match gP c with
 |true=>Wy (((c::l).G kE).d tE) ((c::l).V kE)
 |false=>match eE c with
 |true=>Wz c l
 |false=>D6 c l
noncomputable def ac9:Tx->R (aJ cQ×Tx)
 |[]=>.j
 |c::l=>qr c l
noncomputable def sW:aB->Tx->R (ao cQ)
 |0,_=>.j
 |_+1,[]=>.e []
 |g+1,c::l=>(ac9 (c::l)).g λq=>(sW g q.2).g λa=>.e (match q.1 with
  |aq=>a
  |some k=>k::a)
theorem qU:∀l:Tx,l.K (l.G p).a=l.G p:=by
 intro c
 induction c with
 |nil=>
  exact af
 |cons a l b=>
  refine aA gO ?_;cases h:p a
  ·rfl
  ·exact aW (a::·) (b)
theorem yF:∀l:Tx,l.m (l.G p).a=l.V p:=by
 intro c
 induction c with
 |nil=>
  exact af
 |cons a l b=>
  refine aA gO (aA tc ?_);cases h:p a
  ·rfl
  ·exact b
theorem Gq {c n m:aB}(h:bM c n=ax)(a:cL n m=ax):cL c m=ax:=cK (ab (az (aa h)) (aa a))
theorem Cq {a b:aB}(h:bg (a<=b)=ax):bM a b=ax:=cK (aX h)
theorem Gx (h:gP c=ax):cL c 128=ax:=by
 rcases aZ.g h with h|h
 ·exact Gq (Cq (ae.g h).2) af
 ·exact Gq (Cq (ae.g h).2) af
theorem Gn (h:eE c=ax):cL c 128=ax:=Gq (Cq (ae.g h).2) af
theorem NM (h:kE c=ax):cL c 128=ax:=by
 rcases aZ.g h with h|h
 ·exact Gx h
 ·exact Gn h
theorem y7 {text:Tx}{l:Tx}(a:text.m i=c::l):i<text.a/\text[i]?=ah c/\text.m (i+1)=l:=by
 have e:i<text.a:=by
  apply xG;intro q;have a:=kO q▸a;injection a
 have b:(text.m i)[0]?=ah c:=a▸af;rw [kq] at b;have d:text.m (i+1)=(text.m i).m 1:=by rw [kP]
 exact dX e b (d▸a▸af)
theorem Cj {σ:a8}{l:Tx}(h:k<l.a)(a:l[k]?=ah c)(q:Q (.c [c])):qI (.c l) (.d k) σ Q:=b8 (jb h) (b8 a q)
theorem Gh [Decidable p](b:p->A)(a:¬p->B):v8 (.g (bg p)) A B:=fE (λh=>b (aX h)) λh=>a (cV h)
section
variable {T:dt}{C:fk}
noncomputable def SI (m:Bm):E:=.B (.a (.q .c (.v 4) (.r .a (.a (.v 0) .b))) (.a (.t (.l (.v 0) (.v 4)) .d .b) (.a (.t (.l (.v 0) (.v 4)) m .b) .b)))
theorem DN {p:aB->bC}(n:∀c,p c=ax->cL c 128=ax)(o:∀c σ e Q X,cL c 128=ax->Q (.g (p c)) σ->Lh m (.c [c]) σ (lQ T C .b e σ (λvs σ=>Zm m (.c [c]) vs σ Q) X))
  {text:Tx} {σ:a8} {j:aB} (f:e 0=ah (.c text)) (d:e 4=ah (.d j)) (q:Q (.g (match text.m j with
   |[]=>aw
   |c::_=>p c)) σ):ey T C (SI m) e σ Q X:=by
 refine aH d (aH f ?_);refine Gh (λh=>?_) λh=>?_
 ·cases b:text.m j with
  |nil=>exact bZ (cM.g h) (eg (sd.g b))
  |cons c l=>
   refine vf (y7 b) λk i r=>?_;have q:=b▸q;refine aH f (aH d ?_);refine Cj k i (fE (λa=>?_) λa=>?_)
   ·refine aH f ?_;refine aH d (Cj k i ?_);exact o _ _ _ _ _ a q
   ·cases g:p c
    ·exact dw g (show Q (.g (p c)) σ from q)
    ·have a:=n c g▸a;injection a
 ·have q:=(kO (iJ λq=>h (cM.i q)))▸q;exact q
theorem Hn (t:∀c,p c=ax->cL c 128=ax)(u:∀c σ e Q X,cL c 128=ax->Q (.g (p c)) σ->Lh m (.c [c]) σ (lQ T C .b e σ (λvs σ=>Zm m (.c [c]) vs σ Q) X))
  : ∀(g j:aB) (e:Ev),e 0=ah (.c text)->e 4=ah (.d j)->((text.m j).G p).a<g->
   (∀a,(∀i,i≠4->a i=e i)->a 4=ah (.d (j+((text.m j).G p).a:aB))->QQ .a a σ)->
   qm (ey T C (SI m)) (di T C (.a (.Sw 4 .a (.d 1)) .b)) g e σ QQ XX:=by
 intro g
 induction g with
 |zero=>intro j e _ _ h;exact bZ h (fL _)
 |succ g s=>
  intro j e r f b q;refine se ?_;intro w;refine DN t u r f ?_;cases n:text.m j with
  |nil=>have q:=n▸q;exact q e (λz z=>af) f
  |cons c l=>
   rw [n,gO] at q b;cases d:p c
   ·rw [d] at q;exact r0 d (q e (λz z=>af) f)
   ·rw [d] at q b;refine wX d (aH f ?_);rw [← ((y7 n).2.2)] at b q;refine s (j+1) (bu e 4 (.d (j+1:aB))) r af (fZ b) λa v k=>q a (λi o=>(v i o).b (dG i o)) (k.b ?_);rw [bo];rfl
end
section
variable {T:dt}{C:fk}
def LxE (res:R (aJ cQ×Tx))(text:Tx)(σ₀:a8)(c:ao AV)(QQ:QF)(XX:XS):Prop:=match res with
 |.e q=>∀a b,a 0=ah (.c text)->a 1=ah (.e σ₀.a)->a 2=ah (.d (b:aB))->b<=text.a->text.m b=q.2->∀f,(f=.a\/f=.d)->
   QQ f a (σ₀++[.a (c++(match q.1 with
    |aq=>[]
    |some k=>[k.f]))])
 |.i=>∀e d,XX e d
 |.j=>cR
theorem t6 {σ:a8}{m a:MO}:(σ++[m]).w σ.a a=σ++[a]:=by
 refine aA (lJ _ _ (au _)) ?_;rw [k9];rfl
theorem En {text:Tx}{i k:aB}:xh text i (i+k)=(text.m i).K k:=by
 unfold xh;refine aA List.drop_take ?_;rw [gG]
theorem Nv {text:Tx}{i:aB}:xh text (tf i) (tf (i+((text.m i).G p).a:aB))=(text.m i).G p:=by
 show xh text i (i+_)=_;refine aA En ?_;rw [qU]
theorem sq:∀(l:Tx),∀c∈l.G p,p c=ax:=by
 intro e
 induction e with
 |nil=>
  intro c b;cases b
 |cons a l d=>
  intro c b;have b:=gO▸b;refine gl ?_;intro f;cases h:p a
  ·have b:=h▸b;cases b
  ·have b:=h▸b;rcases cz.g b with rfl|b
   ·exact h
   ·exact d c b
theorem HS {text:Tx}{i:aB}:text.m (i+((text.m i).G p).a)=(text.m i).V p:=by
 refine dw kP ?_;rw [yF]
theorem LJ (l:Tx):(l.G p).a<=l.a:=by
 have:=aW cC (qU (p:=p) l);rw [pZ] at this;exact dw this (gh _ _)
theorem LK {text:Tx}{i:aB}(a:i<=text.a):i+((text.m i).G p).a<=text.a:=by
 have:=LJ (p:=p) (text.m i);rw [fS] at this;exact ab (ar this i) (aV (gF a))
theorem aar (c:aB):cF [c] wh=aw:=by
 show ((aM c 58&&aw)||((aM c 60&&aw)||((aM c 60&&aw)||((aM c 62&&aw)||false))))=aw;rw [hH,hH,hH];rfl
theorem PW {text:Tx}{σ₀:a8}{i c:aB}{l:Tx}(p:e 0=ah (.c text))(o:e 1=ah (.e σ₀.a))(n:e 2=ah (.d i))(m:e 3=ah (.c [c]))(k:text.m i=c::l)(a:d.a<gL)
  (h:LxE (D6 c l) text σ₀ d QQ XX):di T C (.a (.rA 6 (.H (.v 0) (.c (.v 2)) (.c (.n .a (.v 2) (.d 2))))) (.a (.vj (.q .f (.v 6) (.p (.a (.h [58,61]) (.a (.h [60,62]) (.a (.h [60,61]) (.a (.h [62,61]) .b)))))) (.a (.rA 6 (.v 3)) .b) .b) (.a (.vj (.B (.a (.q .a (.v 6) (.v 3)) (.a (.q .f (.v 3) (.h [43,45,42,61,60,62,40,41,91,93,44,59,58,46])) .b))) (.a (.wb (.v 3)) .b) .b) (.a (.oM (.t (.v 1) .a (.a (.p (.a (.h [119,111,114,100]) (.a (.v 6) .b))) .b))) (.a (.Sw 2 .a (.r .a (.a (.v 6) .b))) .b))))) e (σ₀++[.a d]) QQ XX:=by
 refine vf (y7 k) λq y j=>?_;refine en4 e p o n m ?_;intro z;refine (dX (bq _) (Int.le_add_of_nonneg_right (by decide)) ?_);refine aA (show xh text (tf i) (tf ((i:aU)+2))=(c::l).K 2 from k▸En) ?_;refine gd ?_;intro r;refine sY (λf=>?_) λf=>?_
 ·unfold D6 at h;rw [show cF _ wh=ax from f] at h;cases l with
  |nil=>exact aR ((aar c).h.b f)
  |cons s l=>
   refine r0 (hH _) ?_;refine bk bO (bk bO ⟨a,?_⟩);refine aA t6 ?_;exact (h (bu (bu z 6 _) 2 (.d (i+2:aB))) (i+2) af af af (y7 j).1 (y7 j).2.2 _ (.C af))
 ·unfold D6 at h;rw [show cF _ wh=aw from f] at h;refine wX (b:=bT [c] [c]) (vk _) ?_;refine sY (λg=>?_) λg=>?_
  ·rw [show d0 c yI=ax from g] at h;refine (bk bO ?_);refine bk bO ⟨a,?_⟩;refine aA t6 ?_;exact (h (bu (bu (bu z 6 _) 6 _) 2 (.d (i+1:aB))) (i+1) af af af q j _ (.C af))
  ·rw [show d0 c yI=aw from g] at h;exact (h _ _)
theorem abg (d c:aB):(d==c)=aM d c:=by
 cases h:aM d c
 ·exact dR.i λq=>by rw [q,gU] at h;injection h
 ·exact j0.i (aD h)
theorem Er (c:aB):∀l:Tx,oA c l=(l.ng (·==c)).d λk=>l.m (k+1):=by
 intro b
 induction b with
 |nil=>
  exact af
 |cons d l a=>
  refine aA List.findIdx?_cons ?_;rw [abg];unfold oA;cases aM d c
  ·refine aA a ?_;show _=GP _ (GP _ _);cases l.ng (·==c)<;>rfl
  ·rfl
theorem Ge (hg:T.b 0=ah (.j BF)){text:Tx}{σ₀:a8}{i c:aB}{l:Tx}(h0:e 0=ah (.c text))(h1:e 1=ah (.e σ₀.a))(h2:e 2=ah (.d i))(v:text.m i=c::l)(r:n.a<gL)
  (h:LxE (qr c l) text σ₀ n QQ XX):di T C KQ e (σ₀++[.a n]) QQ XX:=by
 refine vf (y7 v) λM a2 Y=>?_;unfold qr at h;refine aH h0 (aH h2 (Cj M a2 ?_));refine en3 e h0 h1 h2 ?_;intro z;refine fE (λD=>?_) λD=>?_
 ·have h:=D▸h;exact (dw (bD n) (h (bu (bu z 3 _) 2 (.d (i+1:aB))) (i+1) af af af M Y _ (.y af)))
 have h:=D▸h;refine fE (λD=>?_) λD=>?_
 ·have hn:=(ae.g D).1;have hc:=aD hn;have h:=hn▸h;refine dX (bq _) (cy.i (dK M)) ?_;rw [Er] at h;refine aA (show An 125 text (tf i)=(match l.ng (·==125) with
    |some k=>((i+(k+1):aB):aU)
    |aq=>-1) by
   unfold An;rw [o8,v,hc,List.findIdx?_cons];cases l.ng (·==125)<;>rfl) ?_
  cases W:l.ng (·==125) with
  |none=>have h:=W▸h;exact h _ _
  |some k=>
   rw [W] at h;have V:i+(k+1)<text.a:=by
    have q:=(List.findIdx?_eq_some_iff_getElem.g W).1;rw [← Y,fS] at q;exact aA (wJ i k 1) (Nat.add_lt_of_lt_sub q)
   refine dw (bD n) (h (bu (bu (bu z 3 _) 4 (.d (i+(k+1):aB))) 2 (.d (i+(k+1)+1:aB))) (i+(k+1)+1) af af af V ?_ _ (.y af));show _=l.m (k+1);refine dw Y ?_;rw [kP,bo]
 have h:=(show aM c 123=aw from (tv (aM c 123)).h.b D)▸h;have sg:gP c=aw->eE c=aw->LxE (D6 c l) text σ₀ n QQ XX:=λx y=>by have h:=x▸y▸h;exact h
 have H:gP c=aw->eE c=aw->_:=λx y=>PW (T:=T) (C:=C) (e:=bu z 3 (.c [c])) af af af af v r (sg x y);have na:cL c 128=aw->gP c=aw/\eE c=aw:=λt=>⟨b6.i λq=>aR ((Gx q).h.b t),b6.i λq=>aR ((Gn q).h.b t)⟩;have N:gP c=ax->∀Z:Ev->a8->Prop,di T C (.a (.rA 4 (.v 2)) (.a (.Lu Y5 Y7) (.a (.rA 5 (.t (.H (.v 0) (.c (.v 2)) (.c (.v 4))) .h .b)) (.a (.oM (.t (.v 1) .a (.a (.p (.a (.L (.q .e (.v 5) (.g 0)) (.h [119,111,114,100]) (.h [110,97,109,101])) (.a (.v 5) .b))) .b))) (.a (.rA 2 (.v 4)) (.a .FN .b)))))) (bu z 3 (.c [c])) (σ₀++[.a n]) (λf z u=>match f with
   |.a=>Z z u
   |f=>QQ f z u) XX:=λj Z=>by
  have h:=j▸h;refine mq ?_;intro O;refine ⟨text.a+1,Hn (text:=text) (p:=kE) (m:=.f) (λc h=>NM h) (λc u z Q X h q=>q6 h q) _ i (bu (bu z 3 _) 4 (.d i)) af af (wI (ab (LJ _) (aA fS (fO _ _)))) λL A g=>?_⟩;have G:=(A 0 (by decide)).b af;have J:=(A 1 (by decide)).b af;have g2:=(A 2 (by decide)).b af;refine aH G (aH g2 ?_);refine aH g (dX (bq _) (cy.i (ak _ _)) ?_);refine aA Nv ?_;refine ⟨λd v=>aa (NM (sq _ d v)),?_⟩;refine aH (e:=bu L 5 _) (i:=1) J (bk bO ?_);refine b8 hg ?_;have F:=HS (text:=text) (i:=i) (p:=kE);have s:=LK (p:=kE) (dK M);rw [v] at F s g ⊢;refine fE (λhm=>?_) λhm=>?_
  all_goals
   unfold Wy at h;have h:=hm▸h;refine bk bO ⟨r,?_⟩;refine aA t6 ?_;exact aH (e:=bu L 5 _) (i:=4) g (h (bu (bu L 5 _) 2 _) _ G J af s F _ (.y af))
 have P:gP c=aw->eE c=ax->∀Z:Ev->a8->Prop,di T C (.a (.rA 4 (.v 2)) (.a (.Lu Y6 Y8) (.a (.vj (.B (.a (.q .c (.v 4) (.r .a (.a (.v 0) .b))) (.a (.t (.l (.v 0) (.v 4)) .d .b) (.a (.t (.l (.v 0) (.v 4)) .c .b) .b)))) (.a (.wb (.h [105,110,116])) .b) .b) (.a (.oM (.t (.v 1) .a (.a (.p (.a (.h [105,110,116]) (.a (.r .e (.a (.H (.v 0) (.c (.v 2)) (.c (.v 4))) .b)) .b))) .b))) (.a (.rA 2 (.v 4)) (.a .FN .b)))))) (bu z 3 (.c [c])) (σ₀++[.a n]) (λf z u=>match f with
   |.a=>Z z u
   |f=>QQ f z u) XX:=λj o Z=>by
  have h:=j▸o▸h;refine mq ?_;intro O;refine ⟨text.a+1,Hn (text:=text) (p:=eE) (m:=.g) (λc h=>Gn h) (λc u z Q X h q=>q6 h q) _ i (bu (bu z 3 _) 4 (.d i)) af af (wI (ab (LJ _) (by refine aA fS ?_;exact fO _ _))) λL A g=>?_⟩;have G:=(A 0 (by decide)).b af;have J:=(A 1 (by decide)).b af;have F:=HS (text:=text) (i:=i) (p:=eE);have s:=LK (p:=eE) (dK M);refine DN (p:=gP) (m:=.c) (λc h=>Gx h) (λc u z Q X h q=>q6 h q) G g ?_;refine aA F ?_;refine fE (b:=mF ((text.m i).V eE)) (λI=>?_) λI=>?_
  ·refine gl ?_;intro g9;rw [v] at I;unfold Wz at h;have h:=I▸h;exact h _ _
  refine mq ?_;intro O;refine aH J (bk bO ?_);refine aH G (aH ((A 2 (by decide)).b af) ?_);refine aH g (dX (bq _) (cy.i (ak _ _)) ?_);refine aA Nv ?_;have w:=dz.i (sq (p:=eE) (text.m i));rw [v] at I F s g w ⊢;unfold Wz at h;have h:=I▸h;refine gl ?_;intro g9;cases B:bM (List.takeWhile eE (c::l)).a 600 with
  |false=>rw [B] at h;exact h.e
  |true=>
   rw [B] at h;refine fK (by refine aA gO (aA o ?_);exact cP _ _) (aa B) w ?_;refine bk bO ⟨r,?_⟩;refine aA t6 ?_;exact aH g (h (bu L 2 _) _ G J af s F _ (.y af))
 refine fE (λt=>?_) λt=>?_
 ·refine q6 t ?_;refine fE (λj=>?_) λj=>?_
  ·exact N j _
  ·refine wX t ?_;refine q6 t (fE (λo=>?_) λo=>?_)
   ·exact P j o _
   ·exact H j o
 ·refine mq ?_;intro O;refine r0 (b:=cL c 128) t ?_;exact H (na t).1 (na t).2
def LxL (res:R (ao cQ))(σ₀:a8)(a:ao AV)(QQ:QF)(XX:XS):Prop:=match res with
 |.e d=>∀b,b 1=ah (.e σ₀.a)->QQ .a b (σ₀++[.a (a++d.d cQ.f)])
 |.i=>∀e c,XX e c
 |.j=>cR
theorem QD (F:T.b 0=ah (.j BF)):∀(g:aB) (a:ao AV) (i:aB) (e:Ev),e 0=ah (.c text)->e 1=ah (.e σ₀.a)->e 2=ah (.d i)->a.a+g<=800000->
  LxL (sW g (text.m i)) σ₀ a QQ XX->qm (ey T C Sl) (di T C KQ) g e (σ₀++[.a a]) QQ XX:=by
 intro g
 induction g with
 |zero=>intro a i e _ _ _ _ h;exact h.e
 |succ g A=>
  intro a i e x w v u h;refine se ?_;intro L;refine aH v (aH x ?_);refine gl ?_;intro N;cases o:text.m i with
  |nil=>
   have h:=o▸h;exact r0 (b:=bg ((i:aU)<(text.a:aU))) (bR λq=>eg (sd.g o) (cM.g q)) (dw (bD a) (h e w))
  |cons c l=>
   have h:=o▸h;refine wX (b:=bg ((i:aU)<(text.a:aU))) (bF (cM.i (y7 o).1)) (Ge F x w v o (lt9 u) ?_);have h:LxL ((qr c l).g λq=>(sW g q.2).g λd=>.e (match q.1 with
    |aq=>d
    |some k=>k::d)) σ₀ a QQ XX:=h
   cases s:qr c l with
   |j=>rw [s] at h;exact h.e
   |i=>rw [s] at h;exact h
   |e q=>
    have h:=s▸h;intro y B J I H M G f n;have r:qm (ey T C Sl) (di T C KQ) g y (σ₀++[MO.a (a++match q.1 with
      |aq=>[]
      |some k=>[k.f])]) QQ XX:=by
     have j:∀m,a.a+m<=a.a+1->a.a+m+g<=800000:=λm D=>ab (aj D g) (ab (aV (bo _ 1 g)) u);refine A _ B y J I H ?_ ?_
     ·refine aA ai ?_;rcases q with ⟨_|k,z⟩
      ·exact j 0 (bh _)
      ·exact j 1 (au _)
     ·refine aA G ?_;have h:LxL ((sW g q.2).g λd=>.e (match q.1 with
       |aq=>d
       |some k=>k::d)) σ₀ a QQ XX:=h
      cases n:sW g q.2 with
      |j=>rw [n] at h;exact h.e
      |i=>rw [n] at h;exact h
      |e d=>
       rw [n] at h;intro t p;have:=h t p;rcases q with ⟨_|k,z⟩
       ·rw [ag];exact this
       ·rw [ag];exact this
    rcases n with rfl|rfl<;>exact r
end
theorem D7:∀(g:aB) (l:Tx) (ts:ao cQ),sW g l=.e ts->ts.a<=g
 |0,_,_,h=>by injection h
 |g+1,[],_,h=>by injection h with h;subst h;exact bG _
 |g+1,c::l,ts,h=>by
  have h:((qr c l).g λq=>(sW g q.2).g λts=>.e (match q.1 with
    |aq=>ts
    |some k=>k::ts))=.e ts:=h
  refine gl ?_;intro f;cases b:qr c l with
  |j=>rw [b] at h;injection h
  |i=>rw [b] at h;injection h
  |e q=>
   rw [b] at h;have h:((sW g q.2).g λts=>R.e (match q.1 with
    |aq=>ts
    |some k=>k::ts))=.e ts:=h
   cases a:sW g q.2 with
   |j=>rw [a] at h;injection h
   |i=>rw [a] at h;injection h
   |e d=>
    rw [a] at h;have:=D7 g _ _ a;rcases q with ⟨_|k,e⟩<;>cases h
    ·exact b7 this
    ·exact az this
section
variable {T:dt}{D:aB->aJ cO}
noncomputable def yY:aB:=20000
noncomputable def Js (text:Tx):R (ao cQ):=(sW yY text).g λa=>.e (a++[.e])
theorem Wx (K:Core T D){n:aB}{text:Tx}{X:QX}(f:1<=n)
  (h:match Js text with
   |.e ts=>∀a,σ.a<=a.a->(∀i,i<σ.a->a[i]?=σ[i]?)->∀o,σ.a<=o->a[o]?=ah (.a (ts.d cQ.f))->Q (.e o) a
   |.i=>∀a,X a
   |.j=>cR):bp T D n 0 [.c text] σ Q X:=by
 refine oE f λn z=>?_;refine bU (K.e 0 af af) af ⟨yY,QD K.g yY [] 0 _ af af af (show 20000<=800000 by decide) ?_⟩;revert h;unfold Js LxL R.g;refine aA jA ?_;cases d:sW yY text with
 |j=>exact id
 |i=>intro h e σ;exact h _
 |e ts=>
  intro h j g;refine aH g (bk (cI bO) ?_);refine bk bO ⟨?_,?_⟩
  ·have:=D7 _ _ _ d;rw [d9,ay];exact ab (aj this 1) (show 20001<=gL by decide)
  refine h _ ?_ (λi b=>?_) _ ?_ ?_
  ·refine aA ai ?_;rw [ai,ai,bW,bW];exact ak _ _
  ·have c:i<(σ++[MO.a ([]++ts.d cQ.f)]).a:=by refine aA ai ?_;exact qk _ b
   exact aA (cY (by rw [ai];exact qk _ c)) (aA (cY c) (aA (cY b) af))
  ·refine aA ai ?_;rw [ai,bW];exact ak _ _
  ·refine aA bO (aA cw ?_);rfl
end
def jL (σ a:a8):Prop:=σ.a<=a.a/\∀i,i<σ.a->a[i]?=σ[i]?
theorem jL.ig (σ:a8):jL σ σ:=⟨au _,λz z=>af⟩
theorem jL.gY (h:jL a b)(e:jL b c):jL a c:=⟨ab h.1 e.1,λi d=>e.2 i (aS d h.1)▸h.2 i d▸af⟩
theorem jL.wB {o:aB}(k:jL σ a)(h:σ[o]?=ah m):a[o]?=ah m:=by
 exact aA (k.2 o (a7.g h).1) (aA h af)
theorem jL.eP (h:jL σ₀ σ):jL σ₀ (σ++[m]):=
 ⟨ab h.1 (by refine aA ai ?_;exact ak _ _),λi a=>aA (cY (aS a h.1)) (aA (h.2 i a) af)⟩
theorem jL.GG (h:jL σ₀ σ)(b:σ₀.a<=o):jL σ₀ (σ.w o m):=
 ⟨by refine aA bX ?_;exact h.1,λi a=>aA (bA (dW (aS a b))) (aA (h.2 i a) af)⟩
theorem fR.ext (h:jL σ₀ σ)(c:σ₀.a<=r)(k:fR r σ a):jL σ₀ a:=
 ⟨ab h.1 k.1,λi b=>k.2 i (b5 (aS b c)) (aS b h.1)▸h.2 i b▸af⟩
def Yr (enc:c->AV)(res:R c)(σ₀:a8)(Q:QV)(X:QX):Prop:=match res with
 |.e a=>∀b,jL σ₀ b->Q (enc a) b
 |.i=>∀b,X b
 |.j=>cR
theorem Yr.NZ {enc:a->AV}:mx (λres=>Yr enc res σ₀ Q X) X:=⟨λh=>h,λh=>h⟩
noncomputable def j7 (text:Tx):R (Tx×Bl):=(Js text).g mT
noncomputable def kB (q:Tx×Bl):AV:=.f [.c kA,.c q.1,q.2.f]
section
variable {T:dt}{D:aB->aJ cO}
theorem ue (K:Core T D){text:Tx}(e:90<=n)(h:Yr kB (j7 text) σ Q X):bp T D n 13 [.c text] σ Q X:=by
 obtain ⟨n,rfl⟩:=JT (ab (aa af) e);have e:88<=n:=aY (aY e);refine bU (K.e 13 af af) af ?_;intro P O N M;refine l4 1 K.i (K.b 1 af af) ?_;refine bU (K.e 1 af af) af ?_;intro P O N M;refine ⟨K.b 0 af af,?_⟩;refine Wx K (ab (aa af) e) ?_;unfold j7 at h;cases H:Js text with
 |j=>rw [H] at h;exact h.e
 |i=>rw [H] at h;exact h
 |e I=>
  have h:=H▸h;intro c p v o W Y;have L:jL (σ++[MO.b 0 []]) c:=⟨p,v⟩;have J:c[σ.a]?=ah (.b 0 []):=L.wB bO;have y:=eL (m:=.b 0 [(.ts,.e o)]) J;refine BU J (BU y ?_);refine ⟨af,?_⟩;have d:σ.a≠o:=b5 (aS (ai▸cA _) W);have V:PS ((c.w σ.a (.b 0 [(.ts,.e o)])).w σ.a (.b 0 [(.ts,.e o),(.A5,.d 0)])) σ.a o I:=
   (jf (I.d cQ.f) 0 (eL y) (aA (bA d) (aA (bA d) (aA Y af))) af)
  have Z:=(((jL.ig σ).eP.gY L).GG (m:=.b 0 [(.ts,.e o)]) (au _)).GG (m:=.b 0 [(.ts,.e o),(.A5,.d 0)]) (au _);have z:2<=n+1:=b7 (ab (aa af) e);refine en K Yr.NZ z V h λa G l u h=>(mw K Yr.NZ (aT z) l h λx a F j t h=>?_);refine en K Yr.NZ z j h λa C i s h=>(fy (ND K dB) (K.b 12 af af) (b7 (ab (show dB+73<=88 by decide) e)) Yr.NZ i h λb B g r h=>?_);refine en K Yr.NZ z g h λa A f q h=>?_;cases a with
  |nil=>exact h.e
  |cons k a=>
   refine pL f ?_;cases k with
   |e=>exact h _ (fR.ext Z (au _) ((((u.cq t).cq s).cq r).cq q))
   |a w=>exact h _
   |b w=>exact h _
   |c w=>exact h _
end
inductive In where
 |o (n:aB)|h (l a:aB)|r (l a:aB)|u (l a:aB)|t|k|q (n:aB)|d (s:Tx)
 |g (p:aB)|c (p:aB)|v (n:aB)|m (l a n:aB)|e|w|f|i|j
noncomputable def adp:Tx:=[108,105,116]
noncomputable def ado:Tx:=[108,111,100]
noncomputable def ads:Tx:=[108,100,97]
noncomputable def adm:Tx:=[115,116,111]
noncomputable def adq:Tx:=[108,100,105]
noncomputable def adn:Tx:=[115,116,105]
noncomputable def adt:Tx:=[99,104,107]
noncomputable def Xb:Tx:=[111,112,114]
noncomputable def aaT:Tx:=[106,109,112]
noncomputable def aaS:Tx:=[106,112,99]
noncomputable def adu:Tx:=[99,97,108]
noncomputable def Xa:Tx:=[114,101,116]
noncomputable def adl:Tx:=[119,114,116]
noncomputable def aaR:Tx:=[116,105,99,107]
noncomputable def In.b:In->AV
 |.o n=>.f [.c adp,.d n]
 |.h l a=>.f [.c ado,.d l,.d a]
 |.r l a=>.f [.c ads,.d l,.d a]
 |.u l a=>.f [.c adm,.d l,.d a]
 |.t=>.f [.c adq]
 |.k=>.f [.c adn]
 |.q n=>.f [.c adt,.d n]
 |.d s=>.f [.c Xb,.c s]
 |.g p=>.f [.c aaT,.d p]
 |.c p=>.f [.c aaS,.d p]
 |.v n=>.f [.c vA,.d n]
 |.m l a n=>.f [.c adu,.d l,.d a,.d n]
 |.e=>.f [.c Xa]
 |.w=>.f [.c adl]
 |.f=>.f [.c aaR]
 |.i=>.f [.c aaT,.h]
 |.j=>.f [.c aaS,.h]
inductive Sc where
 |b (a:aB)|f (a:aB)|e (a z:aB)|c (p:aB) (q:ao (Tx×bC))
noncomputable def WD:Tx:=[114,101,102]
noncomputable def HI:Tx:=[112,114,111,99]
noncomputable def Sc.g:Sc->Tx
 |.b _=>vA|.f _=>WD|.e ..=>yD|.c ..=>HI
noncomputable def Sc.d:Sc->AV
 |.b a=>.f [.c vA,.d a]
 |.f a=>.f [.c WD,.d a]
 |.e a z=>.f [.c yD,.d a,.d z]
 |.c p q=>.f [.c HI,.d p,.f (q.d xl)]
abbrev cG:=ao (Tx×Sc)
noncomputable def mY (s:cG):ao (Tx×AV):=s.d λq=>(q.1,q.2.d)
noncomputable def wk (x:Tx):cG->aJ Sc
 |[]=>aq
 |(y,e)::r=>match bT x y with
  |true=>ah e
  |false=>wk x r
noncomputable def nz (x:Tx)(v:Sc):cG->cG
 |[]=>[(x,v)]
 |(y,w)::r=>match bT y x with
  |true=>(y,v)::r
  |false=>(y,w)::nz x v r
theorem VJ (x y:Tx):(x==y)=bT x y:=by
 cases h:bT x y
 ·exact dR.i λq=>by rw [q,vk] at h;injection h
 ·exact j0.i (eA h)
theorem vz (x:Tx):∀s:cG,(mY s).j x=(wk x s).d Sc.d
 |[]=>af
 |(y,e)::r=>by
  show GQ x ((y,e.d)::mY r)=_;refine aA iH ?_;rw [VJ,vz x r];show _=GP Sc.d (match bT x y with
   |true=>ah e
   |false=>wk x r)
  cases bT x y<;>rfl
theorem DS (x:Tx)(v:Sc):∀s:cG,xR x v.d (mY s)=mY (nz x v s)
 |[]=>af
 |(y,e)::r=>by
  show xR x v.d ((y,e.d)::mY r)=_;show kr (bT y x) _ ((y,e.d)::xR x v.d (mY r))=mY (match bT y x with
   |true=>(y,v)::r
   |false=>(y,e)::nz x v r)
  refine aA (DS x v r) ?_;cases bT y x<;>rfl
theorem mR (x:Tx)(v:Sc):∀s:cG,(nz x v s).a<=s.a+1
 |[]=>au _
 |(y,e)::r=>by
  show (match bT y x with
   |true=>(y,v)::r
   |false=>(y,e)::nz x v r).a<=_
  cases bT y x
  ·exact az (mR x v r)
  ·exact bh _
noncomputable def eR (x:Tx):ao cG->aB->aJ (aB×Sc)
 |[],_=>aq
 |s::r,l=>match wk x s with
  |some e=>ah (l,e)
  |aq=>eR x r (l+1)
noncomputable def y8 (sc:ao cG)(x:Tx):R (ao In):=match eR x sc 0 with
 |some (l,.b a)=>.e [.h l a]
 |some (l,.f a)=>.e [.h l a,.t]
 |_=>.i
noncomputable def kd (sc:ao cG)(x:Tx):R (ao In):=match eR x sc 0 with
 |some (l,.b a)=>.e [.r l a]
 |some (l,.f a)=>.e [.h l a]
 |_=>.i
noncomputable def NA (sc:ao cG)(x:Tx)(i:R (ao In)):R (ao In):=match eR x sc 0 with
 |some (l,.e a z)=>i.g λc=>.e (c++[.q z,.r l a,.d hK])
 |_=>.i
noncomputable def kc (sc:ao cG):Ex->R (ao In)
 |.h n=>.e [.o n]
 |.g x=>y8 sc x
 |.k x e=>(NA sc x (kc sc e)).g λc=>.e (c++[.t])
 |.m e=>(kc sc e).g λc=>.e (c++[.d Cd])
 |.l e=>(kc sc e).g λc=>.e (c++[.d rZ])
 |.c o a b=>(kc sc a).g λc=>(kc sc b).g λd=>.e (c++d++[.d o])
noncomputable def NB (sc:ao cG):Ex->R (ao In)
 |.g x=>kd sc x
 |.k x e=>NA sc x (kc sc e)
 |_=>.i
noncomputable def qe (sc:ao cG):ao bC->ao Ex->R (ao In)
 |v::a,e::b=>(match v with
  |true=>NB sc e
  |false=>kc sc e).g λc=>(qe sc a b).g λd=>.e (c++d)
 |[],[]=>.e []
 |_,_=>.i
noncomputable def iw (sc:ao cG):aB->aB->St->R (ao In)
 |_,_,.iS=>.e []
 |_,_,.U x e=>(kd sc x).g λc=>(kc sc e).g λd=>.e (c++d++[.k])
 |_,_,.iR x i e=>(NA sc x (kc sc i)).g λc=>(kc sc e).g λd=>.e (c++d++[.k])
 |_,_,.ip x h=>(match eR x sc 0 with
  |some (l,.c a q)=>(match aM q.a h.a with
   |true=>(qe sc (q.d (·.2)) h).g λc=>.e (c++[.f,.m l a h.a])
   |false=>.i)
  |_=>.i)
 |f,p,.uF c a=>(kc sc c).g λv=>(iw sc f (p+v.a+1) a).g λs=>.e (v++[.c (p+v.a+1+s.a)]++s)
 |f,p,.uE c a b=>(kc sc c).g λv=>(iw sc f (p+v.a+1) a).g λs=>(iw sc f (p+v.a+1+s.a+1) b).g λt=>
   .e (v++[.c (p+v.a+1+s.a+1)]++s++[.g (p+v.a+1+s.a+1+t.a)]++t)
 |f,p,.wt c a=>(kc sc c).g λv=>(iw sc f (p+v.a+2) a).g λs=>.e (v++[.f,.c (p+v.a+2+s.a+1)]++s++[.g p])
 |f,p,.wu r c=>(iw sc f p r).g λs=>(kc sc c).g λv=>.e (s++v++[.f,.c p])
 |f,p,.ti x a b j s=>(kd sc x).g λw=>(kc sc a).g λu=>(kc sc b).g λv=>
   let g:=p+u.a+v.a
   (iw sc (f+2) (g+5+w.a+2) s).g λt=>
   let k:=g+5+w.a+2+t.a+5
   .e (u++v++[.f,.h 0 f,.h 0 (f+1),.d (kr j [60,61] [62,61]),.c k]++w++[.h 0 f,.k]++t++[.h 0 f,.o 1,.d (kr j [43] [45]),.u 0 f,.g g,.c (k+1),.c (k+2)])
 |f,p,.vM s=>iw sc f p s
 |_,_,.R e=>(kc sc e).g λc=>.e (c++[.w])
 |f,p,.nh s=>iw sc f p s
 |f,p,.E s r=>(iw sc f p s).g λc=>(iw sc f (p+c.a) r).g λd=>.e (c++d)
noncomputable def Ex.j:Ex->aB
 |.h _=>1|.g _=>2|.k _ e=>e.j+4|.m e=>e.j+1|.l e=>e.j+1|.c _ a b=>a.j+(b.j+1)
noncomputable def SE:ao Ex->aB
 |[]=>0
 |e::r=>e.j+SE r
noncomputable def St.sz:St->aB
 |.iS=>0|.U _ e=>1+(e.j+1)|.iR _ i e=>i.j+3+(e.j+1)|.ip _ d=>SE d+2|.uF c a=>c.j+(1+a.sz)|.uE c a b=>c.j+(1+(a.sz+(1+b.sz)))
 |.wt c a=>c.j+(2+(a.sz+1))|.wu s c=>s.sz+(c.j+2)|.ti _ a b _ s=>a.j+(b.j+(6+(2+(s.sz+7))))|.vM s=>s.sz|.R e=>e.j+1|.nh s=>s.sz|.E s r=>s.sz+r.sz
noncomputable def Ex.q:Ex->aB
 |.h _=>2|.g _=>3|.k _ e=>vV 3 (e.q+1)+1|.m e=>e.q+1|.l e=>e.q+1|.c _ a b=>vV a.q b.q+1
noncomputable def fus:ao Ex->aB
 |[]=>3
 |e::r=>vV e.q (fus r)
noncomputable def St.fu:St->aB
 |.iS=>1|.U _ e=>vV 4 e.q+1|.iR _ i e=>vV (vV 3 (i.q+1)) e.q+1|.ip _ d=>fus d+1|.uF c a=>vV c.q a.fu+1|.uE c a b=>vV c.q (vV a.fu b.fu)+1
 |.wt c a=>vV c.q a.fu+1|.wu s c=>vV s.fu c.q+1|.ti _ a b _ s=>vV (vV 4 s.fu) (vV a.q b.q)+1|.vM s=>s.fu+1|.R e=>e.q+1|.nh s=>s.fu|.E s r=>vV s.fu r.fu
theorem R.k {m:R d}{b:c}(h:m.g f=.e b):∃a,m=.e a/\f a=.e b:=by
 cases m with
 |e a=>exact bQ a af h
 |i=>injection h
 |j=>injection h
noncomputable def oX (σ:a8):ao aB->ao cG->Prop
 |[],[]=>True
 |d::b,s::a=>σ[d]?=ah (.d (mY s))/\oX σ b a
 |_,_=>cR
theorem oX.abA (k:fR t σ a)(c:σ[t]?=ah (.a L)):∀{b:ao aB} {sc:ao cG},oX σ b sc->oX a b sc
 |[],[],_=>kN
 |d::b,s::sc,h=>⟨k.CL (by rintro rfl;have:=c.h.b h.1;injection this with this;injection this) h.1,oX.abA k c h.2⟩
 |[],_::_,h=>h.e
 |_::_,[],h=>h.e
theorem oX.len:∀{a:ao aB} {sc:ao cG},oX σ a sc->a.a=sc.a
 |[],[],_=>af
 |d::a,s::sc,h=>aW ix (oX.len h.2)
 |[],_::_,h=>h.e
 |_::_,[],h=>h.e
theorem oX.get:∀{f:ao aB} {sc:ao cG} {l:aB} {s:cG} {r:ao cG},oX σ f sc->sc.m l=s::r->∃d,f[l]?=ah d/\σ[d]?=ah (.d (mY s))/\l<f.a
 |d::f,s::sc,0,_,_,h,e=>by injection e with e;subst e;exact l4 d af h.1 (cp _)
 |d::f,s::sc,l+1,_,_,h,e=>by obtain ⟨d,a,b,c⟩:=oX.get h.2 e;exact l4 d a b (bL c)
 |[],[],l,_,_,h,e=>by have e:=o7▸e;injection e
 |[],_::_,_,_,_,h,_=>h.e
 |_::_,[],_,_,_,h,_=>h.e
theorem fR.GF:fR t σ (σ.w t m):=⟨dw bX (au _),λi a z=>bA (gJ a)⟩
structure Fr where
 r:aB
 t:aB
 c:aB
 d:ao aB
 a:ao cG
 b:a8
structure abx (F:Fr):Prop where
 d:∃l,F.b[F.t]?=ah (.a l)
 f:F.b[F.r]?=ah (.b 1 [(.r8,.e F.t)])
 g:F.b[F.c]?=ah (.a (F.d.B.d AV.e))
 i:oX F.b F.d F.a
 c:F.c≠F.t
 b:F.d.a<=1000
structure Cx (F:Fr)(σ:a8)(L:ao In)(b:ao aB):Prop where
 H:abx F
 B:σ[F.t]?=ah (.a (L.d In.b))
 E:fR F.t F.b σ
 I:L.a+b.sum<=900000
theorem abx.j (h:abx F):F.r≠F.t:=λe=>by
 obtain ⟨l,a⟩:=h.d;have:=(e▸h.f).h.b a;injection this with this;injection this
theorem Cx.M (h:Cx F σ L b):σ[F.r]?=ah (.b 1 [(.r8,.e F.t)]):=h.E.CL h.H.j h.H.f
theorem Cx.N (h:Cx F σ L b):σ[F.c]?=ah (.a (F.d.B.d AV.e)):=h.E.CL h.H.c h.H.g
theorem Cx.J (h:Cx F σ L b):oX σ F.d F.a:=by
 obtain ⟨l,a⟩:=h.H.d;exact h.H.i.abA h.E a
theorem Cx.z (h:Cx F σ L ((x+y)::b)):Cx F σ L (x::y::b):=⟨h.H,h.B,h.E,ab (aV (by refine aA fX ?_;rw [fX,fX,bW])) h.I⟩
theorem Cx.R (h:Cx F σ L (x::b))(l:y<=x):Cx F σ L (y::b):=⟨h.H,h.B,h.E,ab (ar (by refine aA fX (aA fX ?_);exact aj l _) _) h.I⟩
theorem Cx.j (h:Cx F σ (L++c++d) b):Cx F σ (L++(c++d)) b:=dw (ag L c d) h
theorem Nr (a:σ[r]?=ah (.d l))(q:Q l):IU r σ Q:=by
 unfold IU;exact bQ _ a q
theorem gv (h:Cx F σ L b)(q:Q (.e F.t)):p9 (.e F.r) .r8 σ Q:=rK h.M af af q
theorem D9 (h:σ[d]?=ah (.d (mY s)))(a:wk x s=ah e)(q:Q e.d):qI (.e d) (.c x) σ Q:=
 Nr h (b8 (by rw [vz];refine aA a ?_;rfl) q)
theorem QW (h:σ[d]?=ah (.d (mY s)))(q:Q (wk x s).kI):Fu x d σ Q:=by
 unfold Fu;refine .y (bQ _ h ?_);rw [vz];refine aA Option.isSome_map ?_;exact q
section
variable {T:dt}{D:aB->aJ cO}
theorem cm (h:Cx F σ L b)(c:T.a f=ah 1)(a:P F.r):hY T f (.e F.r) σ P:=by
 unfold hY;exact IM F.r 1 _ af h.M c a
theorem nM (K:Core T D)(a:1<=n)(d:b=ax->Q .h σ)(c:b=aw->X σ):bp T D n 14 [.g b,.c w] σ Q X:=by
 refine oE a λn z=>?_;refine bU (K.e 14 af af) af ?_;intro i g f e;exact sY (λh=>d h) λh=>c h
theorem c8 (K:Core T D)(i:In)(f:1<=n)(a:Cx F σ L (1::b))
  (h:∀c,let z:ao In:=L++[i];Cx F c z b->Q (.d L.a) c):hY T 16 (.e F.r) σ λr=>bp T D n 16 [.e r,i.b] σ Q X:=by
 refine oE f λn y=>?_;have d:=a.I;rw [fX,← bW] at d;refine cm a (K.b 16 af af) (bU (K.e 16 af af) af ?_);intro l k j g;refine gv a (bk a.B ?_);refine bk a.B ⟨?_,?_⟩
 ·rw [ay];exact S3 (aS (cA _) (ab (ak _ _) d))
 have e:Cx F (σ.w F.t (.a (L.d In.b++[i.b]))) (L++[i]) b:=⟨a.H,aA cw (eL a.B),a.E.cq fR.GF,aA ai d⟩;refine gv e (bk e.B ?_);have:=h _ e;have this:=(show (L.a:aU)=(((L++[i]).d In.b).a:aU)-1 by rw [ay,ai];exact (cT _ 1).h)▸this;exact this
theorem Wa {a:ao aB}(h:a[l]?=ah d)(b:l<a.a)(q:Q (.e d)):lh (lZ (((a.B.d AV.e).a:aU)-1-(0+(l:aU))) (a.B.d AV.e).a) λk=>lh (a.B.d AV.e)[k]? Q:=by
 have f:1<=a.a:=aQ (bG _) b;have e:l<=a.a-1:=Nat.le_pred_of_lt b;have c:a.a-1-l<a.a:=aQ (fO _ _) (Nat.sub_lt f (aa af));rw [ay];refine aA mK (aA (show (a.a:aU)-1-(0+(l:aU))=((a.a-1-l:aB):aU) by rw [uH e,uH f,jR];rfl) ?_);refine b8 (jb c) (b8 ?_ q);refine aA cS (aA (List.getElem?_reverse c) (aA (Nat.sub_sub_self e) (aA h ?_)));rfl
theorem Nf (K:Core T D){n so:aB}(A:1<=n)(B:jq kinds=ax)(c:σ[so]?=ah (.a (y.B.d AV.e)))(a:oX σ y sc){XX:XS} :
  ∀(m l:aB) (e:Ev),l+m=y.a->e 1=ah (.c x)->e 2=ah (.e so)->e 3=ah (.f kinds)->
   (match eR x (sc.m l) l with
    |some (l',w)=>(match cF w.g kinds with
     |true=>∀e,QQ (.b (.f [.d l',w.d])) e σ
     |false=>∀e,XX e σ)
    |aq=>∀e,e 1=ah (.c x)->QQ .a e σ)->
   jg (CX 4) (di T (bp T D n) UG) ((r9 l m).d λ(k:aB)=>AV.d (0+(k:aU))) e σ QQ XX:=by
 intro m
 induction m with
 |zero=>
  intro l e j b o t h;rw [show sc.m l=[] from kO (aV (a.len.h.b j.h))] at h;exact h e b
 |succ m z=>
  intro l e j b o t h;cases g:sc.m l with
  |nil=>
   have:=sd.g g;rw [← a.len,← j] at this;exact bZ this (qi (cX (cp m)))
  |cons s v=>
   refine l8 (a.get g) λd F u C=>?_;rw [g] at h;refine aH (e:=bu e 4 _) (i:=2) o (aH (e:=bu e 4 _) (i:=2) o ?_);refine bk c (bk c ?_);refine Wa F C (aH (e:=bu (bu e 4 _) 5 _) (i:=1) b ?_);refine QW u ?_;have h:(match (match wk x s with
     |some e=>ah (l,e)
     |aq=>eR x v (l+1)) with
    |some (l',w)=>(match cF w.g kinds with
     |true=>∀e,QQ (.b (.f [.d l',w.d])) e σ
     |false=>∀e,XX e σ)
    |aq=>∀e,e 1=ah (.c x)->QQ .a e σ):=h
   cases f:wk x s with
   |none=>
    have h:=f▸h;exact z (l+1) _ ((gs l m).b j) b o t ((show v=sc.m (l+1) from List.tail_drop▸g▸af)▸h)
   |some w=>
    have h:=f▸h;have p:∀{Q:AV->Prop},Q (.c w.g)->qI w.d (.d 0) σ Q:=λq=>by cases w<;>exact q
    refine aH (e:=bu (bu e 4 _) 5 _) (i:=1) b (D9 u f ?_);refine p (aH (e:=bu (bu e 4 _) 5 _) (i:=3) t ?_);refine q6 B (aH (e:=bu (bu e 4 _) 5 _) (i:=1) b ?_);refine ⟨K.b 14 af af,?_⟩;refine nM K A (λr=>?_) λr=>?_
    ·have h:(match cF w.g kinds with
      |true=>∀e,QQ (.b (.f [.d l,w.d])) e σ
      |false=>∀e,XX e σ):=h
     rw [r] at h;refine aH (e:=bu (bu e 4 _) 5 _) (i:=1) b (D9 u f ?_);exact ((jR (l:aU)).h▸h) _
    ·have h:(match cF w.g kinds with
      |true=>∀e,QQ (.b (.f [.d l,w.d])) e σ
      |false=>∀e,XX e σ):=h
     rw [r] at h;exact h _
theorem qV (n:aB):tG (.k 0 (n:aU) 1)=ah ((r9 0 n).d λ(k:aB)=>AV.d (0+(k:aU))):=by
 show ah (List.map AV.d ((ew ((n:aU)-0).p).d λ(k:aB)=>0+(k:aU)))=_;refine aA gR ?_;rw [List.range_eq_range',qD];rfl
theorem uw (K:Core T D)(c:2<=n)(d:jq kinds=ax)(a:Cx F σ L b)
  (h:match eR x F.a 0 with
    |some (l',w)=>(match cF w.g kinds with
     |true=>Q (.f [.d l',w.d]) σ
     |false=>X σ)
    |aq=>X σ):hY T 18 (.e F.r) σ λr=>bp T D n 18 [.e r,.c x,.e F.c,.f kinds] σ Q X:=by
 refine oE c λn c=>?_;refine cm a (K.b 18 af af) (bU (K.e 18 af af) af ?_);intro k j i g;refine bk a.N ?_;rw [ay];refine aA mK ?_;refine ⟨ab a.H.b (aa af),?_⟩;refine b8 (qV _) (Nf K c d a.N a.J F.d.a 0 _ (dJ _) af af af ?_);revert h;refine aA jA ?_;cases eR x F.a 0 with
 |none=>intro h e f;exact aH f h
 |some q=>
  show (match cF q.2.g kinds with
     |true=>Q (.f [.d q.1,q.2.d]) σ
     |false=>X σ)->(match cF q.2.g kinds with
     |true=>∀e:Ev,Q (.f [.d q.1,q.2.d]) σ
     |false=>∀e:Ev,X σ)
  cases cF q.2.g kinds
  ·exact λh e=>h
  ·exact λh e=>h
end
def Ia (F:Fr)(res:R (ao In))(L:ao In)(b:ao aB)(Q:QV)(X:QX):Prop:=match res with
 |.e c=>∀a,Cx F a (L++c) b->Q .h a
 |.i=>∀a,X a
 |.j=>cR
theorem Ia.my:mx (λres=>Ia F res L b Q X) X:=⟨λh=>h,λh=>h⟩
theorem Ia.of {G:R e->Prop}(E:mx G X)(h:G (m.g f))
  (c:∀q a,Cx F a (L++q) b->G (f q)->Q .h a):Ia F m L b Q X:=by
 cases m with
 |e q=>exact λa d=>c q a d h
 |i=>exact E.d h
 |j=>exact (E.c h).e
section
variable {T:dt}{D:aB->aJ cO}
noncomputable def kIR:ao AV:=[.c vA,.c WD]
theorem zb (K:Core T D)(c:3<=n)(d:Cx F σ L (1::b))(h:Ia F (kd F.a x) L b Q X) :
  hY T 19 (.e F.r) σ λr=>bp T D n 19 [.e r,.f [.c sr,.c x],.e F.c] σ Q X:=by
 refine oE c λn c=>?_;refine cm d (K.b 19 af af) ?_;refine bU (K.e 19 af af) af ?_;intro i g f e;refine uw K (kinds:=kIR) c af d ?_;unfold kd at h;revert h;cases eR x F.a 0 with
 |none=>exact λh=>h _
 |some q=>
  cases q with|mk l w=>
  cases w with
  |b a=>intro h;refine c8 K (.r l a) (aT c) d ?_;exact h
  |f a=>intro h;refine c8 K (.h l a) (aT c) d ?_;exact h
  |e a z=>exact λh=>h _
  |c a z=>exact λh=>h _
noncomputable def wW:ao AV:=[.c hK,.c hU,.c yC,.c DG,.c DF,.c [61],.c [60,62],.c [60],.c [60,61],.c [62],.c [62,61]]
noncomputable def Ex.i:Ex->bC
 |.h _=>ax|.g _=>ax|.k _ e=>e.i|.m e=>e.i|.l e=>e.i|.c o a b=>cF o wW&&a.i&&b.i
theorem eU (h:cF x (.c y::r)=ax):x=y\/cF x r=ax:=by
 rcases aZ.g (show (bT x y||cF x r)=ax from h) with h|h
 ·exact .C (eA h)
 ·exact .y h
theorem MB (h:cF o wW=ax):bT o vA=aw/\bT o sr=aw/\bT o Ym=aw:=by
 unfold wW at h
 iterate 11 (rcases eU h with rfl|h; · exact ⟨af,af,af⟩)
 injection h
def VFn (T:dt)(D:aB->aJ cO)(e:Ex):Prop:=
 e.i=ax->∀n,e.q<=n->∀F L b a Q X,Cx F a L (e.j::b)->Ia F (kc F.a e) L b Q X->hY T 20 (.e F.r) a λr=>bp T D n 20 [.e r,e.d,.e F.c] a Q X
theorem Nb:∀e:Ex,2<=e.q
 |.h _=>au 2
 |.g _=>bh 2
 |.k _ e=>ab (show 2<=3 by decide) (ab (da _ _) (bh _))
 |.m e=>b7 (Nb e)
 |.l e=>b7 (Nb e)
 |.c _ a b=>b7 (ab (Nb a) (da _ _))
theorem vL (K:Core T D)(v:VFn T D i)(u:i.i=ax)(p:vV 3 (i.q+1)<=n)(s:Cx F σ L ((i.j+3)::b))(h:Ia F (NA F.a x (kc F.a i)) L b Q X) :
  hY T 19 (.e F.r) σ λr=>bp T D n 19 [.e r,.f [.c Ym,.c x,i.d],.e F.c] σ Q X:=by
 obtain ⟨n,rfl⟩:=rJ (ab (by decide) (bj.g p).1);have t:=aY (bj.g p).1;have g:=aT t;refine cm s (K.b 19 af af) ?_;refine bU (K.e 19 af af) af ?_;intro G C B A;refine ⟨K.b 14 af af,?_⟩;refine nM K g (λ_=>?_) λq=>by injection q
 refine uw K (kinds:=[.c yD]) t af s ?_;unfold NA at h;revert h;cases eR x F.a 0 with
 |none=>exact λh=>h _
 |some q=>
  cases q with|mk l w=>
  cases w with
  |e a z=>
   intro h;refine gd ?_;intro H;refine v u n (aY (bj.g p).2) F L (3::b) _ _ _ s.z (Ia.of Ia.my h λq o f h=>?_);refine c8 K (.q z) g (f.z (x:=1) (y:=2)) λm e=>?_;refine c8 K (.r l a) g (e.z (x:=1) (y:=1)) λk d=>?_;refine c8 K (.d hK) g d.j λj c=>?_;exact h _ c.j.j
  |f a=>exact λh=>h _
  |b a=>exact λh=>h _
  |c a z=>exact λh=>h _
theorem mc (K:Core T D):∀e:Ex,VFn T D e:=by
 intro e
 induction e with
 |h m=>
  intro k n c F L b p Q X j h;obtain ⟨n,rfl⟩:=rJ (aT c);refine cm j (K.b 20 af af) ?_;refine bU (K.e 20 af af) af ?_;intro C B A v;refine c8 K (.o m) (aY c) j ?_;exact h
 |g x=>
  intro k n c F L b p Q X j h;refine oE c λn c=>?_;have I:=aT c;refine cm j (K.b 20 af af) ?_;refine bU (K.e 20 af af) af ?_;intro C B A v;refine uw K (kinds:=kIR) c af j ?_;have h:Ia F (y8 F.a x) L b Q X:=h;unfold y8 at h;revert h;cases eR x F.a 0 with
  |none=>exact λh=>h _
  |some q=>
   cases q with|mk l w=>
   cases w with
   |b a=>intro h;refine c8 K (.h l a) I (j.R (y:=1) (show 1<=2 by decide)) ?_;exact h
   |f a=>
    intro h;refine c8 K (.h l a) I (j.z (x:=1) (y:=1)) λi f=>?_;refine c8 K .t I f λg d=>?_;exact h _ d.j
   |e a z=>exact λh=>h _
   |c a z=>exact λh=>h _
 |k x e r=>
  intro k n c F L b p Q X j h;obtain ⟨n,rfl⟩:=rJ (ab (aF 1 _) c);have c:=aY c;refine cm j (K.b 20 af af) ?_;refine bU (K.e 20 af af) af ?_;intro C B A v;refine vL K r k c (j.z (x:=e.j+3) (y:=1)) (Ia.of Ia.my h λq i f h=>?_);refine c8 K .t (ab (by decide) (bj.g c).1) f λg d=>?_;exact h _ d.j
 |m e r=>
  intro k n c F L b p Q X j h;obtain ⟨n,rfl⟩:=rJ (ab (aF 1 _) c);have c:=aY c;refine cm j (K.b 20 af af) ?_;refine ⟨OT,K.e 20 af af,af,?_⟩;refine ⟨by decide,cy.i (show 1<=2 by decide),?_⟩;refine r k n c F _ _ _ _ _ (j.z (y:=1)) (Ia.of Ia.my h λq i f h=>?_);refine c8 K (.d Cd) (ab (aT (Nb e)) c) f λg d=>?_;exact h _ d.j
 |l e r=>
  intro k n c F L b p Q X j h;obtain ⟨n,rfl⟩:=rJ (ab (aF 1 _) c);have c:=aY c;refine cm j (K.b 20 af af) ?_;refine ⟨OT,K.e 20 af af,af,?_⟩;refine ⟨by decide,cy.i (show 1<=2 by decide),?_⟩;refine r k n c F _ _ _ _ _ (j.z (y:=1)) (Ia.of Ia.my h λq i f h=>?_);refine c8 K (.d rZ) (ab (aT (Nb e)) c) f λg d=>?_;exact h _ d.j
 |c o a b H G=>
  intro k n c F L P p Q X j h;refine oE c λn c=>?_;have c:=bj.g c;have k:=ae.g k;have s:=ae.g k.1;obtain ⟨N,M,J⟩:=MB s.1;refine cm j (K.b 20 af af) ?_;refine bU (K.e 20 af af) af ?_;intro C B A v;refine r0 (b:=bT o vA) N ?_;refine r0 (b:=bT o sr) M ?_;refine r0 (b:=bT o Ym) J ?_;refine ⟨by decide,cy.i (show 1<=3 by decide),?_⟩;refine H s.2 n c.1 F _ _ _ _ _ j.z (Ia.of Ia.my h λq i f h=>?_);refine G k.2 n c.2 F _ _ _ _ _ f.z (Ia.of Ia.my h λO g d h=>?_);refine c8 K (.d o) (ab (aT (Nb a)) c.1) d.j λu t=>?_;exact h _ t.j
end
noncomputable def St.wf:bC->St->bC
 |false,.iS=>ax
 |false,.U _ e=>e.i
 |false,.iR _ i e=>i.i&&e.i
 |false,.ip _ d=>d.oG Ex.i
 |false,.uF c a=>c.i&&a.wf aw
 |false,.uE c a b=>c.i&&a.wf aw&&b.wf aw
 |false,.wt c a=>c.i&&a.wf aw
 |false,.wu s c=>s.wf ax&&c.i
 |false,.ti _ a b _ s=>a.i&&b.i&&s.wf aw
 |false,.vM s=>s.wf ax
 |false,.R e=>e.i
 |true,.nh s=>s.wf aw
 |true,.E s r=>s.wf aw&&r.wf ax
 |_,_=>aw
def Ey (F:Fr)(res:R (ao In))(L:ao In)(b:ao aB)(g:aB)(d:Ev)(QQ:QF)(XX:XS):Prop:=match res with
 |.e c=>∀f a,(∀i,i≠g->f i=d i)->Cx F a (L++c) b->QQ .a f a
 |.i=>∀e a,XX e a
 |.j=>cR
theorem Ey.JD:mx (λres=>Ey F res L b d c QQ XX) (XX e):=⟨λh a=>h e a,λh=>h⟩
theorem Ey.of {G:R n->Prop}(E:∀e,mx G (XX e))(h:G (m.g f))
  (c:∀q g a,(∀i,i≠j->g i=d i)->Cx F a (L++q) b->G (f q)->QQ .a g a):Ey F m L b j d QQ XX:=by
 cases m with
 |e q=>exact λg a l k=>c q g a l k h
 |i=>exact λe=>(E e).d h
 |j=>exact ((E (λz=>aq)).c h).e
section
variable {T:dt}{D:aB->aJ cO}
theorem RE (K:Core T D)(f:e.i=ax)(p:e.q<=n)(d:3<=n)(c:Cx F σ L (e.j::b))(h:Ia F (NB F.a e) L b Q X) :
  hY T 19 (.e F.r) σ λr=>bp T D n 19 [.e r,e.d,.e F.c] σ Q X:=by
 obtain ⟨m,rfl⟩:=rJ (ab (aa af) d);have g:1<=m:=aT (aY d);cases e with
 |g x=>exact zb K d (c.R (y:=1) (show 1<=2 by decide)) h
 |k x e=>exact vL K (mc K e) f (aT p) (c.R (bh _)) h
 |c o x y=>
  have a:=MB (ae.g (ae.g f).1).1;refine cm c (K.b 19 af af) (bU (K.e 19 af af) af ?_);intro l k j i;refine r0 (b:=bT o sr) a.2.1 ⟨K.b 14 af af,?_⟩;exact nM K g (λq=>aR (a.2.2.h.b q)) λz=>h _
 |_=>
  refine cm c (K.b 19 af af) (bU (K.e 19 af af) af ?_);intro l k j i;refine ⟨K.b 14 af af,?_⟩;exact nM K g (λq=>aR q) λz=>h _
theorem P1 {b:Type}{v x:b}{M:ao b}:∀A:ao b,(A++x::M).w A.a v=A++v::M:=by
 intro d
 induction d with
 |nil=>
  exact af
 |cons a A c=>
  exact aW (a::·) (c)
theorem qW {A M:ao In}{x v:In}{b:ao aB}(c:Cx F σ (A++x::M) b)(d:k=A.a)(h:∀a,Cx F a (A++v::M) b->P a):mr (.e F.t) (.d k) v.b σ P:=by
 subst d;refine bk c.B ?_;refine b8 (jb (by rw [ay];refine aA ai ?_;exact cX (cp _))) ?_;refine h _ ⟨c.H,?_,c.E.cq fR.GF,by have:=c.I;rw [ai] at this ⊢;exact this⟩;refine aA (eL c.B) (aA cw (aA cw (dw (ay (as:=A) In.b) ?_)));exact aW (λl=>ah (MO.a l)) (P1 _)
theorem xt {a:Type}{l:ao a}{x:a}{r:ao a}(h:l.m j=x::r):j<l.a/\l[j]?=ah x/\l.m (j+1)=r:=by
 have d:j<l.a:=by
  apply xG;intro q;have h:=kO q▸h;injection h
 have b:(l.m j)[0]?=ah x:=h▸af;rw [kq] at b;have c:l.m (j+1)=(l.m j).m 1:=by rw [kP]
 exact dX d b (c▸h▸af)
theorem FR {b:Type}{f:b->AV}{l:ao b}{j:aB}{x:b}{r:ao b}(h:l.m j=x::r)(p:P (f x)):qI (.f (l.d f)) (.d (0+(j:aU))) σ P:=by
 have a:=xt h;rw [jR];exact b8 (jb (by rw [ay];exact a.1)) (b8 (by refine aA cS (aA a.2.1 ?_);rfl) p)
theorem LF (h:hY T f (.e r) σ P):P r:=by
 unfold hY at h;refine By h λd c e a z z b=>?_;injection a with a;subst a;exact b
theorem Ry (K:Core T D){F:Fr}{as:ao Ex}{q:ao (Tx×bC)}{e0:Tx}{L0:AV}(W:3<=n) :
  ∀(l:ao Ex) (r:ao (Tx×bC)) (j:aB) (L:ao In) (e:Ev) (σ:a8),as.m j=l->q.m j=r->r.a=l.a->l.oG Ex.i=ax->fus l<=n->Cx F σ L (SE l::b)->
   e 0=ah (.e F.r)->e 1=ah (.f [.c Ay,.c e0,.f (as.d Ex.d)])->e 2=ah (.e F.c)->e 6=ah (.f [L0,p,.f (q.d xl)])->
   Ey F (qe F.a (r.d (·.2)) l) L b 7 e QQ XX->∀m,m=l.a->
   jg (CX 7) (di T (bp T D n) KI) ((r9 j m).d λ(k:aB)=>AV.d (0+(k:aU))) e σ QQ XX:=by
 intro l
 induction l with
 |nil=>
  intro r j L e σ C J x t u s B A z I h m H;refine gl ?_;intro N;subst H;refine gl ?_;intro N;cases r with
  |nil=>exact h e σ (λ_ _=>af) (by rw [bD];exact ⟨s.H,s.B,s.E,by have:=s.I;rw [fX] at this;exact dw (dJ b.sum) this⟩)
  |cons=>injection x
 |cons a l P=>
  intro r j L e σ C J x t u s B A z I h m H;subst H;refine gl ?_;intro N;cases r with
  |nil=>injection x
  |cons O r=>
   have t:=ae.g t;have u:=bj.g u;have next:∀c g,Cx F g (L++c) (SE l::b)->Ey F ((qe F.a (r.d (·.2)) l).g λd=>.e (c++d)) L b 7 e QQ XX->jg (CX 7) (di T (bp T D n) KI) ((r9 (j+1) l.a).d λ(k:aB)=>AV.d (0+(k:aU))) (bu e 7 (.d (0+(j:aU)))) g QQ XX:=λc g o h=>
    P r (j+1) (L++c) (bu e 7 (.d (0+(j:aU)))) g (xt C).2.2 (xt J).2.2 (js x) t.2 u.2 o B A z I (Ey.of (λe=>Ey.JD) h λd X G V w h=>h X G (λi M=>(V i M).b (dG i M)) w.j) _ af
   refine aH (e:=bu e 7 _) (i:=6) I (FR (f:=xl) (σ:=σ) J ?_);obtain ⟨y,v⟩:=O;cases v with
   |true=>
    refine aH (e:=bu e 7 _) (i:=0) B (cm s (K.b 19 af af) ?_);refine aH (e:=bu e 7 _) (i:=1) A (FR (f:=Ex.d) (σ:=σ) C ?_);refine aH (e:=bu e 7 _) (i:=2) z (LF (RE K t.1 u.1 W s.z (Ia.of Ey.JD h λc g o h=>?_)));exact next c g o h
   |false=>
    refine aH (e:=bu e 7 _) (i:=0) B (cm s (K.b 20 af af) ?_);refine aH (e:=bu e 7 _) (i:=1) A (FR (f:=Ex.d) (σ:=σ) C ?_);refine aH (e:=bu e 7 _) (i:=2) z (LF (mc K a t.1 n u.1 F _ _ _ _ _ s.z (Ia.of Ey.JD h λc g o h=>?_)));exact next c g o h
end
section
variable {T:dt}{D:aB->aJ cO}
structure NY (F:Fr)(fo f:aB):Prop where
 a:fo≠F.t
 b:F.b[fo]?=ah (.a [.d f])
def AX (T:dt)(D:aB->aJ cO)(s:St):Prop:=s.wf aw=ax->∀n,s.fu<=n->∀F c f L p b a Q X,NY F c f->L.a=p->Cx F a L (s.sz::b)->
 Ia F (iw F.a f p s) L b Q X->hY T 21 (.e F.r) a λr=>bp T D n 21 [.e r,s.K,.e F.c,.e c] a Q X
noncomputable def BQ (a b:aB):Ss:=(.a (.oM (.w (.v 0) 21 (.a (.v a) (.a (.v 2) (.a (.v b) .b))))) .b)
def Gz (T:dt)(D:aB->aJ cO)(s:St):Prop:=s.wf ax=ax->∀n,s.fu<=n->∀F g f L p b d e a c i h,NY F g f->L.a=p->Cx F d L (s.sz::b)->
 e 0=ah (.e F.r)->e 2=ah (.e F.c)->e c=ah (.e g)->a≠0->a≠2->a≠c->Ey F (iw F.a f p s) L b a e i h->jg (CX a) (di T (bp T D n) (BQ a c)) s.w2 e d i h
theorem ln {a:Type}{L v:ao a}{p:aB}(h:L.a=p):(L++v).a=p+v.a:=by refine aA ai ?_;rw [h]
theorem ln3 {a:Type}{L v s:ao a}{x:a}(h:L.a=p):(L++(v++[x]++s)).a=p+v.a+1+s.a:=by
 rw [← ag,← ag];exact ln (ln (ln h))
theorem Cx.U (h:Cx F σ L (0::b)):Cx F σ L b:=⟨h.H,h.B,h.E,by have:=h.I;rw [fX,dJ] at this;exact this⟩
theorem Cx.i (h:Cx F σ (L++(a++[x]++c)) b):Cx F σ (L++a++x::c) b:=by
 rw [ag a,← ag] at h;exact h
theorem Cx.o (h:Cx F σ (L++a++x::c) b):Cx F σ (L++(a++[x]++c)) b:=by
 rw [ag a,← ag];exact h
theorem Cx.O (h:Cx F σ L b)(e:L=a):Cx F σ a b:=dw e h
theorem Cx.to {F:Fr}{L:ao In}{f:aB->ao In}(h:Cx F σ (f x) b)(e:x=y):Cx F σ (f y) b:=dw e h
theorem VQ (K:Core T D)(x:Tx)(e:Ex):AX T D (.U x e):=by
 intro o n a F A f L p b q Q X z y l h;refine oE a λn a=>?_;have a:=bj.g a;have m:=aT a.1;refine cm l (K.b 21 af af) ?_;refine bU (K.e 21 af af) af ?_;intro w t s r;refine cm l (K.b 19 af af) ?_;refine mU ?_;refine LF (zb K m l.z (Ia.of Ia.my h λu k g h=>?_));refine mc K e o n a.2 F _ _ _ _ _ g.z (Ia.of Ia.my h λv j d h=>?_);refine c8 K .k (ab (by decide) m) d.j λi c=>?_;exact h _ c.j
theorem isN {i:Ex}(q:Q aw):kT i.d Q:=by unfold kT;cases i<;>exact q
theorem adi {s:St}(h:s.wf aw=ax)(q:Q aw):kT s.K Q:=by unfold kT;cases s<;>first|exact q|(cases h)
theorem L1 (K:Core T D)(x:Tx)(i e:Ex):AX T D (.iR x i e):=by
 intro j n a F A f L p b q Q X z y o h;refine oE a λn a=>?_;have a:=bj.g a;have j:=ae.g j;refine cm o (K.b 21 af af) ?_;refine bU (K.e 21 af af) af ?_;intro w t s r;refine cm o (K.b 19 af af) ?_;refine isN ?_;refine LF (vL K (mc K i) j.1 a.1 o.z (Ia.of Ia.my h λu m g h=>?_));refine mc K e j.2 n a.2 F _ _ _ _ _ g.z (Ia.of Ia.my h λv l d h=>?_);refine c8 K .k (ab (by decide) (bj.g a.1).1) d.j λk c=>?_;exact h _ c.j
theorem LZ (K:Core T D)(e:Ex):AX T D (.R e):=by
 intro k n d F u f L p b l Q X t s j h;refine oE d λn d=>?_;refine cm j (K.b 21 af af) ?_;refine bU (K.e 21 af af) af ?_;intro r q o m;refine mc K e k n d F _ _ _ _ _ (j.z (y:=1)) (Ia.of Ia.my h λv i c h=>?_);refine c8 K .w (ab (aT (Nb e)) d) c λg a=>?_;exact h _ a.j
theorem L2 (K:Core T D):AX T D .iS:=by
 intro k n c F o f L p b d Q X m l a h;refine oE c λn z=>?_;refine cm a (K.b 21 af af) ?_;refine bU (K.e 21 af af) af ?_;intro j i g e;exact h _ (aA (bD L) a.U)
theorem adx:∀as:ao Ex,3<=fus as:=by
 intro b
 induction b with
 |nil=>
  exact au 3
 |cons e r a=>
  exact ab (a) (cJ _ _)
theorem He:∀as:ao Ex,as.a<=SE as:=by
 intro b
 induction b with
 |nil=>
  exact au 0
 |cons e r a=>
  exact ab (aL (a) (show 1<=e.j by cases e<;>exact aF 1 _)) (aV (cv _ _))
theorem PU (K:Core T D)(x:Tx)(as:ao Ex):AX T D (.ip x as):=by
 intro G n m F Z f L p b C Q X Y W s h;refine oE m λn m=>?_;have z:=ab (adx as) m;have A:1<=n:=ab (by decide) z;refine cm s (K.b 21 af af) ?_;refine bU (K.e 21 af af) af ?_;intro V P O N;refine uw K (kinds:=[.c HI]) (aT z) af s ?_;have h:Ia F (match eR x F.a 0 with
  |some (l,.c a q)=>(match aM q.a as.a with
   |true=>(qe F.a (q.d Prod.snd) as).g λc=>R.e (c++[In.f,In.m l a as.a])
   |false=>R.i)
  |_=>R.i) L b Q X:=h
 revert h;cases eR x F.a 0 with
 |none=>exact λh=>h _
 |some q=>
  cases q with|mk l w=>
  cases w with
  |c a q=>
   intro h;have h:Ia F (match aM q.a as.a with
    |true=>(qe F.a (q.d Prod.snd) as).g λc=>R.e (c++[In.f,In.m l a as.a])
    |false=>R.i) L b Q X:=h
   refine ⟨K.b 14 af af,?_⟩;refine nM K A (λr=>?_) λr=>?_
   ·have k:q.a=as.a:=by
     have:=kQ (aX r);rw [ay,ay] at this;exact this
    rw [k,gU] at h;have H:as.a<=gL:=ab (He as) (ab (ab (by refine aA fX ?_;exact ab (ak _ _) (aF _ _)) s.z.I) (by decide));refine gd ?_;intro e9;refine ⟨aA (ay (as:=as) Ex.d) H,?_⟩;refine b8 (qV _) ?_;refine Ry K (e0:=x) (L0:=.c HI) (p:=.d a) z as q 0 L _ C af af k G m s.z af af af af ?_ _ (ay _);refine Ey.of (λe=>Ia.my) h λd e' v o j h=>?_;have B:=o 0 (by decide);have M:=o 1 (by decide);have J:=o 5 (by decide);have I:=o 6 (by decide);refine aH B ?_;refine c8 K .f A (j.z (x:=1) (y:=1)) λu i=>?_;refine aH B ?_;refine cm i (K.b 16 af af) ?_;refine aH J ?_;refine aH I ?_;refine aH M ?_;refine LF (c8 K (.m l a (as.d Ex.d).a) A i λt g=>?_);rw [ay] at g;exact h _ g.j.j
   ·have k:aM q.a as.a=aw:=b6.i λe=>by
     have e:=aD e;rw [ay,ay,e] at r;exact bZ r (by refine aA (bF af) ?_;decide)
    rw [k] at h;exact h _
  |_=>exact λh=>h _
theorem VT (K:Core T D)(c:Ex)(a:St)(w:AX T D a):AX T D (.uF c a):=by
 intro k n g F y f L p b B Q X u r t h;refine oE g λn g=>?_;have g:=bj.g g;have k:=ae.g k;have x:=ab (aT (Nb c)) g.1;refine cm t (K.b 21 af af) ?_;refine bU (K.e 21 af af) af ?_;intro I H G C;refine mc K c k.1 n g.1 F _ _ _ _ _ t.z (Ia.of Ia.my h λv q j h=>?_);refine gd ?_;intro z;refine c8 K .j x j.z λo i=>?_;refine gd ?_;intro z;refine w k.2 n g.2 F y f _ _ _ _ _ _ u (ln (ln r)) i (Ia.of Ia.my h λs m d h=>?_);refine mU ?_;refine gv d ?_;refine bk d.B ?_;refine gv d ?_;refine qW (A:=L++v) (v:=.c ((L++v++[In.j]++s).d In.b).a) d.j af λl e=>?_;rw [ay,ln (ln (ln r))] at e;exact h _ e.o
theorem VS (K:Core T D)(c:Ex)(a b:St)(W:AX T D a)(V:AX T D b):AX T D (.uE c a b):=by
 intro o n k F N f L p Y Z Q X I l P h;refine oE k λn k=>?_;have k:=bj.g k;have q:=bj.g k.2;have o:=ae.g o;have m:=ae.g o.1;have J:=ab (aT (Nb c)) k.1;refine cm P (K.b 21 af af) ?_;refine bU (K.e 21 af af) af ?_;intro zC zE zQ zX;refine mc K c m.1 n k.1 F _ _ _ _ _ P.z (Ia.of Ia.my h λv H w h=>?_);refine gd ?_;intro O;refine c8 K .j J w.z λG t=>?_;refine gd ?_;intro O;refine W m.2 n q.1 F N f _ _ _ _ _ _ I (ln (ln l)) t.z (Ia.of Ia.my h λs C r h=>?_);refine adi o.2 ?_;refine c8 K .i J r.z λB d=>?_;refine gd ?_;intro O;refine gv d ?_;refine bk d.B ?_;refine gv d ?_;refine qW (A:=L++v) (x:=.j) (M:=s++[.i]) (v:=.c ((L++v++[In.j]++s++[In.i]).d In.b).a) (by rw [ag,ag] at d;exact d) af λj g=>?_;rw [ay,ln (ln (ln (ln l)))] at g;have g:Cx F j (L++(v++[In.c (p+v.a+1+s.a+1)]++s)++[In.i]) (b.sz::Y):=by
  rw [← ag,← ag,ag (L++v),ag (L++v)];exact g
 refine V o.2 n q.2 F N f _ _ _ _ _ _ I (ln (v:=[In.i]) (ln3 l)) g (Ia.of Ia.my h λu z e h=>?_);refine gv e ?_;refine bk e.B ?_;refine gv e ?_;refine qW (A:=L++(v++[In.c (p+v.a+1+s.a+1)]++s)) (x:=.i) (M:=u) (v:=.g ((L++(v++[In.c (p+v.a+1+s.a+1)]++s)++[In.i]++u).d In.b).a) e.j ((ln (ln (ln l))).b (ln3 l).h) λy i=>?_;rw [ay,ln (ln (v:=[In.i]) (ln3 l))] at i;exact h _ i.o
end
section
variable {T:dt}{D:aB->aJ cO}
theorem VP (K:Core T D)(c:Ex)(a:St)(H:AX T D a):AX T D (.wt c a):=by
 intro m n g F I f L p b J Q X G B o h;refine oE g λn g=>?_;have g:=bj.g g;have m:=ae.g m;have C:=ab (aT (Nb c)) g.1;refine cm o (K.b 21 af af) (bU (K.e 21 af af) af ?_);intro V P O N;refine gv o (bk o.B ?_);refine mc K c m.1 n g.1 F _ _ _ _ _ o.z (Ia.of Ia.my h λv z l h=>?_);refine c8 K .f C (l.z.z (x:=1) (y:=1)) λw k=>(c8 K .j C k λu j=>?_);refine H m.2 n g.2 F I f _ _ _ _ _ _ G (ln (v:=[In.j]) (ln (v:=[In.f]) (ln B))) j.z (Ia.of Ia.my h λs t i h=>?_);refine c8 K (.g (L.d In.b).a) C i λr d=>(gv d ?_);refine bk d.B (gv d ?_);refine qW (A:=L++v++[In.f]) (x:=.j) (M:=s++[In.g (L.d In.b).a]) (v:=.c ((L++v++[In.f]++[In.j]++s++[In.g (L.d In.b).a]).d In.b).a) (d.O (by simp only [ag,eF,d9])) af λq e=>?_;rw [ay,ay,B,ln (ln (ln (ln (ln B))))] at e;exact h _ (e.O (by simp only [ag,eF,d9];rfl))
theorem VR (K:Core T D)(s:St)(c:Ex)(C:Gz T D s):AX T D (.wu s c):=by
 intro l n j F H f L p b B Q X G z o h;refine oE j λn j=>?_;have j:=bj.g j;have l:=ae.g l;have A:=ab (aT (Nb c)) j.2;refine cm o (K.b 21 af af) (bU (K.e 21 af af) af ?_);intro N M J I;refine gv o (bk o.B ?_);refine C l.1 n j.1 F H f L p _ B _ 10 3 _ _ G z o.z af af af (by decide) (by decide) (by decide) (Ey.of (λe=>Ia.my) h λd O u m i h=>?_);have w:=m 0 (by decide);refine aH w (cm i (K.b 20 af af) ?_);refine aH (m 1 (by decide)) (aH (m 2 (by decide)) ?_);refine LF (mc K c l.2 n j.2 F _ _ _ _ _ i.z (Ia.of Ia.my h λv t k h=>?_));refine aH w (c8 K .f A (k.z (x:=1) (y:=1)) λr g=>?_);refine aH w (cm g (K.b 16 af af) ?_);refine aH (m 9 (by decide)) (LF (c8 K (.c (L.d In.b).a) A g λq a=>?_));rw [ay,z] at a;exact h _ (a.O (by simp only [ag,eF,d9]))
theorem VV (K:Core T D)(s:St)(k:Gz T D s):AX T D (.vM s):=by
 intro j n d F o f L p b i Q X m l g h;refine oE d λn d=>?_;refine cm g (K.b 21 af af) (bU (K.e 21 af af) af ?_);intro v u t r;refine k j n d F o f L p _ i _ 10 3 _ _ m l g af af af (by decide) (by decide) (by decide) ?_;have h:Ia F (iw F.a f p s) L b Q X:=h;revert h;unfold Ey Ia;cases iw F.a f p s with
 |e c=>intro h x a w q;exact h _ q
 |i=>intro h e a;exact h _
 |j=>exact id
theorem LC:bu e i v i=ah v:=by
 show kr (aM i i) _ _=_;rw [gU];rfl
theorem yP (K:Core T D)(x:AX T D s)(w:s.wf aw=ax){k:ao In->R H}(z:s.fu<=n)(A:NY F u f)(y:L.a=p)(v:Cx F σ L (s.sz::b))
  (C:e 0=ah (.e F.r)) (B:e 2=ah (.e F.c)) (t:e j=ah (.e u)) (o:d≠0) (m:d≠2) (l:d≠j) (E:∀e,mx G (XX e)) (h:G ((iw F.a f p s).g k))
  (c:∀q g,Cx F g (L++q) b->G (k q)->jg (CX d) (di T (bp T D n) (BQ d j)) r (bu e d s.K) g QQ XX):jg (CX d) (di T (bp T D n) (BQ d j)) (s.K::r) e σ QQ XX:=by
 refine aH ((dG 0 (gJ o)).b C) (cm v (K.b 21 af af) ?_);refine aH LC (aH ((dG 2 (gJ m)).b B) ?_);refine aH ((dG j (gJ l)).b t) (LF (x w n z F u f L p b _ _ _ A y v (Ia.of (E _) h λq a i h=>?_)));exact c q a i h
theorem P8 (K:Core T D)(s:St)(r:AX T D s):Gz T D (.nh s):=by
 intro o n u F B f L p b A e k C m l v t z x w j i g d h;have y:Ey F ((iw F.a f p s).g .e) L b k e m l:=by
  have h:Ey F (iw F.a f p s) L b k e m l:=h;revert h;cases iw F.a f p s<;>exact id
 exact yP K r o u v t z x w j i g d (λe=>Ey.JD) y λq c a h=>h _ _ dG a
theorem P6 (K:Core T D)(s q:St)(C:AX T D s)(G:Gz T D q):Gz T D (.E s q):=by
 intro o n r F I f L p b M e B A P O x v J z y k j g a h;have o:=ae.g o;have r:=bj.g r;refine yP K C o.1 r.1 x v J.z z y k j g a (λe=>Ey.JD) h λc u m h=>(G o.2 n r.2 F I f _ _ _ _ _ B A _ _ x (ln v) m ((dG 0 (gJ j)).b z) ((dG 2 (gJ g)).b y) ((dG A (gJ a)).b k) j g a ?_);exact Ey.of (λe=>Ey.JD) h λd N t H l h=>h _ _ (λi w=>(H i w).b (dG i w)) l.j
theorem oX.abz (a:σ[c]?=ah (.a M)):∀{b:ao aB} {sc:ao cG},oX σ b sc->oX (σ.w c m) b sc
 |[],[],_=>kN
 |d::b,s::sc,h=>⟨(bA (by rintro rfl;have:=a.h.b h.1;injection this with this;injection this)).b h.1,oX.abz a h.2⟩
 |[],_::_,h=>h.e
 |_::_,[],h=>h.e
theorem ZQ (h:Cx F σ L b)(c:σ[e]?=ah (.a [.d f])):e≠F.c:=by
 rintro rfl;have:=h.N.h.b c;cases a:F.d.B with
 |nil=>have this:=a▸this;injection this with this;injection this with this;injection this
 |cons d r=>have this:=a▸this;cases this
theorem Cx.adH (h:Cx F σ L b)(j:c≠F.t)(a:σ[c]?=ah (.a [.d f])):Cx {F with b:=σ.w c (.a [.d g])} (σ.w c (.a [.d g])) L b:=by
 have d:(σ.w c (.a [.d g]))[F.t]?=ah (.a (L.d In.b)):=(bA j).b h.B;have i:c≠F.r:=λe=>by have:=(e▸h.M).h.b a;injection this with this;injection this
 exact ⟨⟨⟨_,d⟩,(bA i).b h.M,(bA (ZQ h a)).b h.N,h.J.abz a,h.H.c,h.H.b⟩,d,fR.oW _ _,h.I⟩
theorem Cx.Z (h:Cx F σ L b)(hf:fo≠F.t)(hfo:F.b[fo]?=ah (.a [.d f]))(h':Cx {F with b:=σ.w fo (.a [.d g])} σ' L' b'):Cx F (σ'.w fo (.a [.d f])) L' b':=by
 have l1:=h'.E.1;rw [bX] at l1;refine ⟨h.H,(bA hf).b h'.B,⟨by refine aA bX ?_;exact ab h.E.1 l1,λi hi hlt=>?_⟩,h'.I⟩;have hs:i<σ.a:=aS hlt h.E.1;by_cases e:i=fo
 ·subst e;exact aA (gT (aS hs l1)) (aA hfo af)
 ·exact aA (bA (gJ e)) (aA (h'.E.2 i hi (by rw [bX];exact hs)) (aA (bA (gJ e)) (aA (h.E.2 i hi hlt) af)))
theorem WZ (h:σ[a]?=ah (.a [.d f]))(p:P (.d f)):qI (.e a) (.d 0) σ P:=bk h p
theorem ZW (h:σ[a]?=ah (.a [.d f]))(e:g=g')(p:P (σ.w a (.a [.d g']))):mr (.e a) (.d 0) (.d g) σ P:=bk h (aA e p)
theorem Ei (K:Core T D)(up:bC)(a c:Tx)(e:1<=n)(f:Cx F σ L (1::b))
  (h:∀d,let z:ao In:=L++[.d (kr up a c)];Cx F d z b->Q (.d L.a) d):hY T 16 (.e F.r) σ λr=>v8 (.g up) (bp T D n 16 [.e r,.f [.c Xb,.c a]] σ Q X) (bp T D n 16 [.e r,.f [.c Xb,.c c]] σ Q X):=by
 cases up
 ·exact c8 K (.d c) e f h
 ·exact c8 K (.d a) e f h
theorem AB {k N c:aB}(g:aB->In)(e:N=c)(f:Cx F σ (A++x::M) b)(d:k=A.a)(h:∀a,Cx F a (A++g c::M) b->P a):mr (.e F.t) (.d k) (g N).b σ P:=by
 subst e;exact qW f d h
theorem Ia.got (c:res=.e w)(h:∀a,Cx F a (L++w) b->Q .h a):Ia F res L b Q X:=aA c h
noncomputable def HN (p f:aB)(up:bC)(u v w t:ao In):ao In:=
 let a:=p+u.a+v.a;let k:=a+5+w.a+2+t.a+5
 u++v++[.f,.h 0 f,.h 0 (f+1),.d (kr up [60,61] [62,61]),.c k]++w++[.h 0 f,.k]++t++[.h 0 f,.o 1,.d (kr up [43] [45]),.u 0 f,.g a,.c (k+1),.c (k+2)]
theorem Nk (K:Core T D)(e:i=j)(c:1<=n)(d:Cx F σ L (1::b))
  (h:∀a,let z:ao In:=L++[j];Cx F a z b->Q (.d L.a) a):hY T 16 (.e F.r) σ λr=>bp T D n 16 [.e r,i.b] σ Q X:=aA e (c8 K j c d h)
theorem Ca {L:ao In}(h:L.a=p):(L++[x]).a=p+1:=ln h
theorem VU (K:Core T D)(x:Tx)(a b:Ex)(up:bC)(s:St)(hs:AX T D s):AX T D (.ti x a b up s):=by
 intro Z n o F fo f L p b' σ Q X m hp cx h;refine oE o λn o=>?_;have o:=bj.g o;have z:=bj.g o.1;have r:=bj.g o.2;have h3:=aT z.1;have c:1<=n:=ab (aa af) h3;have Z:=ae.g Z;have q:=ae.g Z.1;refine cm cx (K.b 21 af af) (bU (K.e 21 af af) af ?_);intro zC zE zQ zX;refine uw K (kinds:=kIR) (aT h3) af cx ?_;have h:Ia F ((kd F.a x).g λw=>(kc F.a a).g λu=>(kc F.a b).g λv=>(iw F.a (f+2) (p+u.a+v.a+5+w.a+2) s).g λt=>.e (HN p f up u v w t)) L b' Q X:=h;cases d:kd F.a x with
 |j=>have h:=d▸h;exact h.e
 |i=>
  have h:=d▸h;unfold kd at d;revert d;rcases eR x F.a 0 with _|⟨l,_|_|_|_⟩<;>intro d<;>first|exact h _|(injection d)
 |e w=>
 rw [d] at h;obtain ⟨l,Y,hfx,hmx,hw1'⟩:∃l Y,eR x F.a 0=ah (l,Y)/\cF Y.g kIR=ax/\w.a=1:=by
  unfold kd at d;revert d;rcases eR x F.a 0 with _|⟨l,_|_|_|_⟩<;>intro d<;>cases d<;>exact jf _ _ af af af
 refine aA hfx ?_;show (match cF Y.g kIR with
  |true=>_
  |false=>_)
 refine aA hmx ?_;refine mc K a q.1 n r.1 F _ _ _ _ _ cx.z (Ia.of Ia.my h λu σ₁ V h=>?_);refine mc K b q.2 n r.2 F _ _ _ _ _ V.z (Ia.of Ia.my h λv k i h=>?_);have C:=i.E.CL m.a m.b;refine WZ C (WZ C ?_);refine ZW (g':=((f+2:aB):aU)) C af ?_;let j:Fr:={F with b:=k.w fo (.a [.d ((f+2:aB):aU)])};have e:Cx j _ _ _:=i.adH (g:=((f+2:aB):aU)) m.a C;have B:NY j fo (f+2):=⟨m.a,eL C⟩;refine (gv e ?_ :);refine bk e.B ((c8 K .f c (e.z.z (x:=1) (y:=5)) ?_ :));intro σ₄ Z1 P;refine (c8 K (.h 0 f) c (P.z (x:=1) (y:=4)) ?_ :);intro σ₅ Z2 O;refine (c8 K (.h 0 (f+1)) c (O.z (x:=1) (y:=3)) ?_ :);intro σ₆ Z3 J;refine (Ei K up [60,61] [62,61] c (J.z (x:=1) (y:=2)) ?_ :);intro σ₇ Z4 I;refine (c8 K .j c (I.z (x:=1) (y:=1)) ?_ :);intro σ₈ Z5 H;refine (zb K h3 H (Ia.got d λσ₉ G=>?_) :);refine (c8 K (.h 0 f) c (G.z.z (x:=1) (y:=1)) ?_ :);intro σa Z6 ca;refine (c8 K .k c ca ?_ :);intro σb Z7 cb;refine (hs Z.2 n z.2 _ fo (f+2) _ (p+u.a+v.a+5+w.a+2) _ _ _ _ B (Ca (Ca (ln (Ca (Ca (Ca (Ca (Ca (ln (ln hp)))))))))) cb.z (Ia.of Ia.my h λt σc cc h=>?_) :);refine (c8 K (.h 0 f) c (cc.z (x:=1) (y:=6)) ?_ :);intro σd Z8 cd;refine (c8 K (.o 1) c (cd.z (x:=1) (y:=5)) ?_ :);intro σe Z9 ce;refine (Ei K up [43] [45] c (ce.z (x:=1) (y:=4)) ?_ :);intro σf Z10 cf;refine (c8 K (.u 0 f) c (cf.z (x:=1) (y:=3)) ?_ :);intro σg Z11 cg;refine (Nk K (aW In.g ((ay In.b).b (ln (ln hp)))) c (cg.z (x:=1) (y:=2)) ?_ :);intro σh W ch;refine (gv ch ?_ :);refine bk ch.B ((gv ch ?_ :));have eK:W.a=p+u.a+v.a+5+w.a+2+t.a+5:=(Ca (Ca (Ca (Ca (Ca (ln (Ca (Ca (ln (Ca (Ca (Ca (Ca (Ca (ln (ln hp))))))))))))))));let M:ao In:=w++([.h 0 f,.k]++(t++[.h 0 f,.o 1,.d (kr up [43] [45]),.u 0 f,.g (p+u.a+v.a)]));have e1:W=Z4++.j::M:=by simp +zetaDelta only [ag,eF,d9]
 refine (AB .c ((ay In.b).b eK) (A:=Z4) (x:=.j) (M:=M) (ch.O e1) af λσi ci=>?_ :);have f9:=ci.E.CL m.a B.b;refine WZ f9 (ZW (g':=(f:aU)) f9 (show ((f:aU)+2)-2=(f:aU) from cT _ 2) ?_);have cj:=i.Z m.a m.b ci;refine gv cj (bk cj.B ?_);refine c8 K (.c (_+1)) c (cj.z (x:=1) (y:=1)) λσk ck=>(c8 K (.c (_+2)) c ck λσl cl=>?_);have e2:∀N,((Z4++In.c N::M).d In.b).a=_:=λN=>(ay _).b (((ai (bs:=In.c N::M)).b (ai (bs:=In.j::M)).h).b ((aW cC e1).h.b eK));rw [e2] at cl;exact h _ (cl.O (by unfold HN;simp +zetaDelta only [ag,eF,d9]))
theorem LY (K:Core T D)(s:St):AX T D s/\Gz T D s:=by
 have d:∀s:St,s.wf ax=aw->Gz T D s:=λs h g=>by have g:=h▸g;injection g
 induction s with
 |iS=>exact ⟨L2 K,d _ af⟩
 |U x e=>exact ⟨VQ K x e,d _ af⟩
 |iR x i e=>exact ⟨L1 K x i e,d _ af⟩
 |ip x o=>exact ⟨PU K x o,d _ af⟩
 |uF c a f=>exact ⟨VT K c a f.1,d _ af⟩
 |uE c a b m l=>exact ⟨VS K c a b m.1 l.1,d _ af⟩
 |wt c a f=>exact ⟨VP K c a f.1,d _ af⟩
 |wu s c f=>exact ⟨VR K s c f.2,d _ af⟩
 |ti x a b n s f=>exact ⟨VU K x a b n s f.1,d _ af⟩
 |vM s f=>exact ⟨VV K s f.2,d _ af⟩
 |R e=>exact ⟨LZ K e,d _ af⟩
 |nh s f=>exact ⟨(λg=>by injection g),P8 K s f.1⟩
 |E s r j k=>exact ⟨(λg=>by injection g),P6 K s r j.1 k.2⟩
end
noncomputable def qb (a:ao AV):ao AV->bC
 |.c x::r=>!cF x a&&qb (a++[.c x]) r
 |_=>ax
noncomputable def j8 (s:cG)(a:aB):ao (Tx×bC)->cG×aB
 |[]=>(s,a)
 |(x,v)::r=>j8 (nz x (match v with
  |true=>.f a
  |false=>.b a) s) (a+1) r
noncomputable def tU (s:cG)(a:aB):ao (Tx×aJ aB)->R (cG×aB)
 |[]=>.e (s,a)
 |(x,aq)::r=>tU (nz x (.b a) s) (a+1) r
 |(x,ah z)::r=>match bM 1 z with
  |true=>tU (nz x (.e a z) s) (a+z) r
  |false=>.i
noncomputable def lr {a:Type}:ao (Tx×a)->ao AV
 |[]=>[]
 |x::r=>.c x.1::lr r
noncomputable def Bl.i:Bl->ao AV
 |.g x _ _ r=>.c x::r.i
 |_=>[]
noncomputable def oS (n:aB):ao In:=match n with
 |0=>[]
 |n+1=>[.v (n+1)]
mutual
noncomputable def kG (sc:ao cG)(p:aB)(params:ao (Tx×bC)):Bl->R (ao In)
 |.e a b e=>match qb [] (lr params++lr a++b.i) with
  |false=>.i
  |true=>(tU (j8 [] 3 params).1 (j8 [] 3 params).2 a).g λw=>
   (oz sc w.1 (p+1) b).g λc=>
   (iw (c.2::sc) w.2 (p+1+c.1.a+(oS (w.2-(j8 [] 3 params).2)).a) e).g λd=>.e ([.g (p+1+c.1.a)]++c.1++oS (w.2-(j8 [] 3 params).2)++d++[.e])
 |_=>.j
noncomputable def oz (sc:ao cG)(s:cG)(p:aB):Bl->R (ao In×cG)
 |.g x q b r=>(kG (nz x (.c p q) s::sc) p q b).g λc=>
   (oz sc (nz x (.c p q) s) (p+c.a) r).g λd=>.e (c++d.1,d.2)
 |.h=>.e ([],s)
 |.e ..=>.j
end
noncomputable def Bl.j:Bl->aB
 |.e a d c=>a.a+(1+(d.j+(1+(c.sz+1))))
 |.g _ q b r=>(q.a+b.j)+(1+r.j)
 |.h=>0
noncomputable def Bl.l:Bl->aB
 |.e d c a=>vV (vV 1 c.l) a.fu+1
 |.g _ q b r=>vV b.l r.l
 |.h=>0
noncomputable def Bl.m:bC->Bl->bC
 |false,.e d c a=>c.m ax&&a.wf ax
 |true,.g _ q b r=>b.m aw&&r.m ax
 |true,.h=>ax
 |_,_=>aw
theorem Qk:∀q:ao (Tx×bC),oJ 2 0 (q.d xl)=ah (lr q):=by
 intro b
 induction b with
 |nil=>
  exact af
 |cons x r a=>
  show (oJ 2 0 (r.d xl)).d _=_;exact aA a af
theorem Qj:∀q:ao (Tx×aJ aB),oJ 2 0 (q.d Au)=ah (lr q):=by
 intro b
 induction b with
 |nil=>
  exact af
 |cons x r a=>
  show (oJ 2 0 (r.d Au)).d _=_;exact aA a af
theorem Hw:∀b:Bl,b.m ax=ax->oJ 3 0 b.k=ah b.i
 |.e ..,h=>by injection h
 |.h,_=>af
 |.g x q b r,h=>by
  show (oJ 3 0 r.k).d _=_;exact aA (Hw r (ae.g h).2) af
theorem AH:∀b:Bl,b.i.a<=b.j
 |.e ..=>bG _
 |.h=>bG _
 |.g x q b r=>ab (az (AH r)) (ab (aV (cv _ 1)) (aF _ _))
theorem Ed {b:Type}:∀q:ao (Tx×b),(lr q).a=q.a:=by
 intro c
 induction c with
 |nil=>
  exact af
 |cons x r a=>
  exact aW ix (a)
theorem pU (h:jq (x::l)=ax):(∃y,x=.c y)/\jq l=ax:=by
 cases x<;>first|exact ⟨⟨_,af⟩,h⟩|(cases h)
theorem AW:∀{a b:ao AV},jq a=ax->jq b=ax->jq (a++b)=ax:=by
 intro d
 induction d with
 |nil=>
  intro _ _ h;exact h
 |cons x a c=>
  intro b h f;obtain ⟨⟨y,rfl⟩,e⟩:=pU h;exact c e f
theorem H6 {b:Type}:∀q:ao (Tx×b),jq (lr q)=ax:=by
 intro c
 induction c with
 |nil=>
  exact af
 |cons x r a=>
  exact a
theorem AU:∀b:Bl,jq b.i=ax
 |.e ..=>af
 |.h=>af
 |.g x q b r=>AU r
theorem y9:∀{l:ao AV} (j:aB),jq l=ax->jq (l.K j)=ax
 |[],_,_=>by refine aA o6 ?_;rfl
 |x::l,0,h=>af
 |x::l,j+1,h=>by obtain ⟨⟨y,rfl⟩,a⟩:=pU h;exact y9 (l:=l) j a
theorem za:∀{l:ao AV} {j:aB} {x:AV} {r:ao AV},jq l=ax->l.m j=x::r->∃y,x=.c y
 |x::l,0,_,_,h,e=>by injection e with e;subst e;exact (pU h).1
 |x::l,j+1,_,_,h,e=>za (l:=l) (j:=j) (pU h).2 e
 |[],j,_,_,_,e=>by have e:=o7▸e;injection e
theorem DY:∀(q:ao (Tx×bC)) (s:cG) (a:aB),(j8 s a q).1.a<=s.a+q.a
 |[],s,a=>au _
 |(x,v)::r,s,a=>ab (DY r _ _) (ab (aj (mR x _ s) _) (aV (bo _ 1 _)))
theorem yE:∀(q:ao (Tx×aJ aB)) (s:cG) (a:aB) (w:cG×aB),tU s a q=.e w->a<=w.2/\w.1.a<=s.a+q.a
 |[],s,a,w,h=>by injection h with h;subst h;exact ⟨au _,au _⟩
 |(x,aq)::r,s,a,w,h=>by
  obtain ⟨d,c⟩:=yE r _ _ w h;exact ⟨aT d,ab c (ab (aj (mR x _ s) _) (aV (bo _ 1 _)))⟩
 |(x,ah z)::r,s,a,w,h=>by
  have h:(match bM 1 z with
   |true=>tU (nz x (.e a z) s) (a+z) r
   |false=>.i)=R.e w:=h
  revert h;cases bM 1 z<;>intro h
  ·cases h
  ·have b:=yE r _ _ w h;exact ⟨ab (ak _ _) b.1,ab b.2 (ab (aj (mR x _ s) _) (aV (bo _ 1 _)))⟩
section
variable {T:dt}{D:aB->aJ cO}
theorem Qw (h:σ[r]?=ah (.a l))(a:jq l=ax)(q:P (cF x l)):Fu x r σ P:=by
 unfold Fu;exact .C (l4 _ h a q)
theorem Q9 (K:Core T D)(w:1<=n)(s:jq l=ax) :
  ∀(r:ao AV) (j:aB) (e:Ev) (σ:a8),l.m j=r->e 7=ah (.e o)->σ[o]?=ah (.a l)->jL σ₀ σ->
   (match qb (l.K j) r with
    |true=>∀c b,(∀i,i≠8->c i=e i)->jL σ₀ b->QQ .a c b
    |false=>∀e σ,XX e σ)->
   jg (CX 8) (di T (bp T D n) UI) ((r9 j r.a).d λ(k:aB)=>AV.d (0+(k:aU))) e σ QQ XX:=by
 intro r
 induction r with
 |nil=>intro j e σ p f d m h;exact h e σ (λ_ _=>af) m
 |cons x r v=>
  intro j e σ p f d m h;obtain ⟨y,rfl⟩:=za s p;refine mq ?_;intro F;refine vf (xt p) λC u B=>?_;refine gd ?_;intro G;refine aH (e:=bu e 8 _) (i:=7) f (bk d ?_);refine b8 (by rw [jR];exact jb C) ?_;refine b8 u ?_;refine aH (e:=bu e 8 _) (i:=7) f (bk d ?_);refine b8 (o:=OO aq) (a:=0) af ?_;refine b8 (o:=OV l.a (ah (.d (0+(j:aU))))) (a:=j) (by rw [jR];rfl) ?_;refine Qw bO (y9 j s) ⟨K.b 14 af af,?_⟩;have h:(match (!cF y (l.K j)&&qb (l.K j++[.c y]) r) with
    |true=>∀c b,(∀i,i≠8->c i=e i)->jL σ₀ b->QQ .a c b
    |false=>∀e σ,XX e σ):=h
  refine nM K w (λq=>?_) λq=>?_
  ·rw [show (!cF y (l.K j))=ax from q] at h;have A:l.K (j+1)=l.K j++[.c y]:=by refine aA List.take_succ (aA u ?_);rfl
   rw [← A] at h;refine v (j+1) _ _ B f (cI d) m.eP ?_;revert h;show (match qb (l.K (j+1)) r with
    |true=>∀c b,(∀i,i≠8->c i=e i)->jL σ₀ b->QQ .a c b
    |false=>∀e σ,XX e σ)->_
   cases qb (l.K (j+1)) r with
   |true=>intro h c b z g;exact h c b (λi t=>(z i t).b (dG i t)) g
   |false=>exact id
  ·have h:=(show (!cF y (l.K j))=aw from q)▸h;exact h _ _
theorem ri (b:σ[d]?=ah (.d (mY s)))(a:s.a<gL)(h:P (σ.w d (.d (mY (nz x w s))))):mr (.e d) (.c x) w.d σ P:=by
 refine Nr b ⟨?_,?_⟩
 ·unfold mY;rw [ay];exact a
 ·rw [DS];exact h
theorem Qn:∀(q:ao (Tx×bC)) (s:cG) (a:aB) (e:Ev) (σ:a8),e 9=ah (.e d)->e 10=ah (.d a)->σ[d]?=ah (.d (mY s))->s.a+q.a<gL->
  (∀o f,(∀i,i≠10->i≠11->i≠12->o i=e i)->o 10=ah (.d (j8 s a q).2)->f[d]?=ah (.d (mY (j8 s a q).1))->fR d σ f->QQ .a o f)->
  jg (CW [11,12]) (di T C UJ) (q.d xl) e σ QQ XX:=by
 intro q
 induction q with
 |nil=>intro s a e σ u g p z h;exact h e σ (λ_ _ _ _=>af) g p (fR.oW _ _)
 |cons x q B=>
  intro s a e σ u g p z h;obtain ⟨x,v⟩:=x;have r:∀w,(nz x w s).a+q.a<gL:=λw=>aQ (ab (aj (mR x w s) _) (aV (bo _ 1 _))) z;have D:s.a<gL:=aQ (ak _ _) z;have t:∀(a b c:AV) i,i≠10->i≠11->i≠12->bu (bu (bu e 11 a) 12 b) 10 c i=e i:=λa b c i n m l=>(dG i n).b ((dG i l).b (dG i m));cases v with
  |true=>
   refine aH (e:=bu (bu e 11 (.c x)) 12 (.g ax)) (i:=10) g (aH (e:=bu (bu e 11 (.c x)) 12 (.g ax)) (i:=9) u ?_);refine ri (w:=.f a) p D (aH (e:=bu (bu e 11 (.c x)) 12 (.g ax)) (i:=10) g ?_);exact B (nz x (.f a) s) (a+1) (bu (bu (bu e 11 (.c x)) 12 (.g ax)) 10 (.d (a+1:aB))) _ u af (eL p) (r _) λo f A j k y=>h o f (λi n m l=>(A i n m l).b (t _ _ _ i n m l)) j k (fR.GF.cq y)
  |false=>
   refine aH (e:=bu (bu e 11 (.c x)) 12 (.g aw)) (i:=10) g (aH (e:=bu (bu e 11 (.c x)) 12 (.g aw)) (i:=9) u ?_);refine ri (w:=.b a) p D (aH (e:=bu (bu e 11 (.c x)) 12 (.g aw)) (i:=10) g ?_);exact B (nz x (.b a) s) (a+1) (bu (bu (bu e 11 (.c x)) 12 (.g aw)) 10 (.d (a+1:aB))) _ u af (eL p) (r _) λo f A j k y=>h o f (λi n m l=>(A i n m l).b (t _ _ _ i n m l)) j k (fR.GF.cq y)
theorem PD (K:Core T D)(y:1<=n){XX:XS}:∀(q:ao (Tx×aJ aB)) (s:cG) (a:aB) (e:Ev) (σ:a8),e 9=ah (.e d)->e 10=ah (.d a)->σ[d]?=ah (.d (mY s))->s.a+q.a<gL->
  (match tU s a q with
   |.e w=>∀g b,(∀i,i≠10->i≠11->i≠14->g i=e i)->g 10=ah (.d w.2)->b[d]?=ah (.d (mY w.1))->fR d σ b->QQ .a g b
   |.i=>∀e σ,XX e σ
   |.j=>cR)->
  jg (CW [11,14]) (di T (bp T D n) KJ) (q.d Au) e σ QQ XX:=by
 intro q
 induction q with
 |nil=>intro s a e σ m f k o h;exact h e σ (λ_ _ _ _=>af) f k (fR.oW _ _)
 |cons x q H=>
  intro s a e σ m f k o h;obtain ⟨x,v⟩:=x;have u:s.a<gL:=aQ (ak _ _) o;have F:∀(w:Sc) (v c:AV) (j:aB),c=.d j->(match tU (nz x w s) j q with
   |.e w=>∀g b,(∀i,i≠10->i≠11->i≠14->g i=e i)->g 10=ah (.d w.2)->b[d]?=ah (.d (mY w.1))->fR d σ b->QQ .a g b
   |.i=>∀e σ,XX e σ
   |.j=>cR)->jg (CW [11,14]) (di T (bp T D n) KJ) (q.d Au) (bu (bu (bu e 11 (.c x)) 14 v) 10 c) (σ.w d (.d (mY (nz x w s)))) QQ XX:=by
   intro w v c j I h;subst I;refine H (nz x w s) j (bu (bu (bu e 11 (.c x)) 14 v) 10 (.d j)) _ m af (eL k) (aQ (ab (aj (mR x w s) _) (aV (bo _ 1 _))) o) ?_;revert h;cases tU (nz x w s) j q with
   |e L=>exact λh g b p l r G=>h g b (λi C B A=>(p i C B A).b ((dG i C).b ((dG i A).b (dG i B)))) l r (fR.GF.cq G)
   |i=>exact id
   |j=>exact id
  cases v with
  |none=>
   refine gd ?_;intro J;refine mU ⟨K.b 14 af af,?_⟩;refine nM K y (λ_=>?_) λq=>aR q;refine gd ?_;intro J;refine mU (aH (e:=bu (bu e 11 (.c x)) 14 .h) (i:=10) f ?_);refine aH (e:=bu (bu e 11 (.c x)) 14 .h) (i:=9) m (ri (w:=.b a) k u ?_);refine aH (e:=bu (bu e 11 (.c x)) 14 .h) (i:=10) f (mU ?_);exact F (.b a) _ _ (a+1) af h
  |some z=>
   have h:(match (match bM 1 z with
     |true=>tU (nz x (.e a z) s) (a+z) q
     |false=>.i) with
    |.e w=>∀g b,(∀i,i≠10->i≠11->i≠14->g i=e i)->g 10=ah (.d w.2)->b[d]?=ah (.d (mY w.1))->fR d σ b->QQ .a g b
    |.i=>∀e σ,XX e σ
    |.j=>cR):=h
   refine sV ⟨K.b 14 af af,?_⟩;refine nM K y (λt=>?_) λt=>?_
   ·rw [cK (cy.g (aX t))] at h;refine sV (aH (e:=bu (bu e 11 (.c x)) 14 (.d z)) (i:=10) f ?_);refine aH (e:=bu (bu e 11 (.c x)) 14 (.d z)) (i:=9) m (ri (w:=.e a z) k u ?_);refine aH (e:=bu (bu e 11 (.c x)) 14 (.d z)) (i:=10) f (sV ?_);exact F (.e a z) _ _ (a+z) af h
   ·rw [show bM 1 z=aw from b6.i λq=>cV t (cy.i (aa q))] at h;exact h _ _
end
def wz (t d:aB)(σ a:a8):Prop:=σ.a<=a.a/\∀i,i≠t->i≠d->i<σ.a->a[i]?=σ[i]?
theorem wz.adF (t d:aB)(σ:a8):wz t d σ σ:=⟨au _,λz z z z=>af⟩
theorem wz.A1 (h:wz t d a b)(j:wz t d b c):wz t d a c:=
 ⟨ab h.1 j.1,λi g f e=>j.2 i g f (aS e h.1)▸h.2 i g f e▸af⟩
theorem fR.to2 (h:fR t a b):wz t d a b:=⟨h.1,λi e z c=>h.2 i e c⟩
theorem fR.XN (h:fR d a b):wz t d a b:=⟨h.1,λi z e c=>h.2 i e c⟩
theorem wz.adG (h:fR t σ b)(f:σ.a<=d)(k:wz t d b a):fR t σ a:=
 ⟨ab h.1 k.1,λi e c=>k.2 i e (b5 (aS c f)) (aS c h.1)▸h.2 i e c▸af⟩
theorem oX.XQ:∀{a:ao aB} {sc:ao cG},(∀d∈a,∀s,σ[d]?=ah (.d s)->b[d]?=ah (.d s))->oX σ a sc->oX b a sc
 |[],[],_,_=>kN
 |d::a,s::sc,k,h=>⟨k d dY _ h.1,oX.XQ (λd c=>k d (de _ c)) h.2⟩
 |[],_::_,_,h=>h.e
 |_::_,[],_,h=>h.e
theorem Cx.V (h:Cx ⟨r,t,so,d::f,s::sc,p⟩ σ L b)(j:d∉f)(k:fR d σ a)(o:a[d]?=ah (.d (mY s'))):Cx ⟨r,t,so,d::f,s'::sc,a⟩ a L b:=by
 have c:σ[d]?=ah (.d (mY s)):=h.J.1;have n:r≠d:=by rintro rfl;have:=c.h.b h.M;injection this with this;injection this
 have m:t≠d:=by rintro rfl;have:=c.h.b h.B;injection this with this;injection this
 have l:so≠d:=by rintro rfl;have:=c.h.b h.N;injection this with this;injection this
 have g:=k.CL m h.B;exact ⟨⟨⟨_,g⟩,k.CL n h.M,k.CL l h.N,⟨o,oX.XQ (λq e s i=>k.CL (by rintro rfl;exact j e) i) h.J.2⟩,h.H.c,h.H.b⟩,g,fR.oW _ _,h.I⟩
theorem Cx.W (h:Cx F σ L b):Cx {F with b:=σ} σ L b:=⟨⟨⟨_,h.B⟩,h.M,h.N,h.J,h.H.c,h.H.b⟩,h.B,fR.oW _ _,h.I⟩
def XT (F:Fr)(res:R (ao In))(L:ao In)(b:ao aB)(Q:QV)(X:QX):Prop:=match res with
 |.e c=>∀a (k:aU),Cx F a (L++c) b->Q (.d k) a
 |.i=>∀a,X a
 |.j=>cR
theorem XT.adI:mx (λres=>XT F res L b Q X) X:=⟨λh=>h,λh=>h⟩
theorem XT.of {G:R e->Prop}(E:mx G X)(h:G (m.g f))
  (c:∀q a (k:aU),Cx F a (L++q) b->G (f q)->Q (.d k) a):XT F m L b Q X:=by
 cases m with
 |e q=>exact λa k d=>c q a k d h
 |i=>exact E.d h
 |j=>exact (E.c h).e
def XR (T:dt)(D:aB->aJ cO)(b:Bl):Prop:=b.m aw=ax->∀n,b.l<=n->∀F L p (q:ao (Tx×bC)) a c Q X,Cx F c L ((q.a+b.j)::a)->F.d.a+b.l<=900->L.a=p->
 XT F (kG F.a p q b) L a Q X->hY T 17 (.e F.r) c λr=>bp T D n 17 [.e r,b.f,.e F.c,.f (q.d xl)] c Q X
def XG (r t so d:aB)(f:ao aB)(sc:ao cG)(res:R (ao In×cG))(L:ao In)(b:ao aB)(σ:a8)(e:Ev)(QQ:QF)(XX:XS):Prop:=match res with
 |.e w=>∀c a,(∀i,i≠11->i≠16->i≠17->c i=e i)->Cx ⟨r,t,so,d::f,w.2::sc,a⟩ a (L++w.1) b->wz t d σ a->QQ .a c a
 |.i=>∀e σ,XX e σ
 |.j=>cR
def NS (T:dt)(D:aB->aJ cO)(b:Bl):Prop:=b.m ax=ax->∀n,b.l<=n->∀r t g d c s h k L p a f e j i,Cx ⟨r,t,g,d::c,s::h,k⟩ f L (b.j::a)->d∉c->c.a+1+b.l<=900->s.a+b.i.a<gL->L.a=p->
 e 0=ah (.e r)->e 2=ah (.e g)->e 9=ah (.e d)->XG r t g d c h (oz h s p b) L a f e j i->jg (CW [11,16,17]) (di T (bp T D n) UK) b.k e f j i
section
variable {T:dt}{D:aB->aJ cO}
theorem Wg:NS T D .h:=by
 intro k n o r t i d x s j g L p f a e z y c q b l m w v u h;exact h e a (λ_ _ _ _=>af) (aA (bD L) c.U.W) (wz.adF _ _ _)
theorem Qi (K:Core T D)(x:Tx)(q:ao (Tx×bC))(b u:Bl)(hb:XR T D b)(hu:NS T D u):NS T D (.g x q b u):=by
 intro o n v r t H d O s y β L p F Y e X G m J j I A B N M h;have o:=ae.g o;have v:=bj.g v;have l:=m.V (s':=nz x (.c p q) s) J fR.GF (eL m.J.1);refine aH (e:=bu (bu (bu e 11 (.c x)) 16 (.f (q.d xl))) 17 b.f) (i:=0) B ((gv m ?_ :));refine bk m.B ?_;rw [ay];refine aA A ?_;refine aH (e:=bu (bu (bu e 11 (.c x)) 16 (.f (q.d xl))) 17 b.f) (i:=9) M (ri (w:=.c p q) m.J.1 (aQ (ak _ _) I) ?_);refine aH (e:=bu (bu (bu e 11 (.c x)) 16 (.f (q.d xl))) 17 b.f) (i:=0) B ((cm l (K.b 17 af af) ?_ :));refine aH (e:=bu (bu (bu e 11 (.c x)) 16 (.f (q.d xl))) 17 b.f) (i:=2) N ((LF (hb o.1 n v.1 _ L p q _ _ _ _ l.z (ab (ar (da _ _) _) j) A (XT.of (show mx (λz=>XG r t H d O y z L F Y e X G) (G (bu (bu (bu e 11 (.c x)) 16 (.f (q.d xl))) 17 b.f)) from ⟨λh g=>h _ g,λh=>h⟩) h λc f k a h=>?_)) :));refine hu o.2 n v.2 r t H d O _ y _ (L++c) (p+c.a) _ f (bu (bu (bu e 11 (.c x)) 16 (.f (q.d xl))) 17 b.f) X G (a.R (aF _ _)) J (ab (ar (cJ _ _) _) j) (aQ (ab (aj (mR x _ s) _) (aV (bo _ 1 _))) I) (ln A) B N M ?_;revert h;unfold XG R.g;cases oz y (nz x (.c p q) s) (p+c.a) u with
 |e w=>
  intro h e' g he C Z;exact h e' g (λi W V P=>(he i W V P).b ((dG i P).b ((dG i V).b (dG i W)))) C.j (((fR.XN fR.GF).A1 a.E.to2).A1 Z)
 |i=>exact id
 |j=>exact id
end
theorem oX.lt:∀{b:ao aB} {sc:ao cG},oX σ b sc->∀d∈b,d<σ.a
 |[],[],_,d,h=>by cases h
 |d::b,s::sc,h,x,a=>by
  rcases cz.g a with rfl|a
  ·exact (a7.g h.1).1
  ·exact oX.lt h.2 x a
 |[],_::_,h,_,_=>h.e
 |_::_,[],h,_,_=>h.e
theorem jL.aby (x:jL σ a):fR t σ a:=⟨x.1,λi z h=>x.2 i h⟩
theorem Cx.Y (h:Cx F σ L (x::b)):Cx F σ L b:=(h.R (bG x)).U
section
variable {T:dt}{D:aB->aJ cO}
theorem Nj (K:Core T D)(i:In)(c:v=i.b)(d:1<=n)(e:Cx F σ L (1::b))
  (h:∀a,Cx F a (L++[i]) b->Q (.d L.a) a):bp T D n 16 [.e F.r,v] σ Q X:=by
 subst c;exact LF (c8 K i d e h)
theorem abd (K:Core T D)
  (hw:r.wf ax=ax) (hn:r.fu<=n) (Z:1<=n) (I:Cx F σ (L++[.i]++c) ((1+(r.sz+1))::o)) (O:L.a=p)
  (G:e 0=ah (.e F.r)) (h2:e 2=ah (.e F.c)) (h6:e 6=ah (.f r.w2)) (B:e 10=ah (.d a)) (C:e 13=ah (.d s)) (P:e 15=ah (.d p))
  (kb:∀g L',Cx F g L' o->Cx F₀ g L' o)
  (h:XT F₀ ((iw F.a a (p+1+c.a+(oS (a-s)).a) r).g λz=>.e ([.g (p+1+c.a)]++c++oS (a-s)++z++[.e])) L o Q X) :
  di T (bp T D n) UH e σ (λfl e g=>match fl with
    |.b v=>Q v g
    |.a=>Q .h g
    |_=>cR) (λ_ g=>X g):=by
 refine mq ?_;intro W;refine aH G (gv I ?_);refine bk I.B (aH (e:=bu e 18 _) (i:=0) G ?_);refine gv I (aH (e:=bu e 18 _) (i:=15) P ?_);refine AB .g (show ((L++[In.i]++c).d In.b).a=p+1+c.a from (ay _).b (ln (ln (v:=[In.i]) O))) (A:=L) (x:=.i) (M:=c) I.j O.h λw l=>?_;have u:∀(i:ao In) (d:a8) (b:ao aB),oS (a-s)=i->Cx F d (L++([In.g (p+1+c.a)]++c++i)) ((r.sz+1)::o)->
   di T (bp T D n) (.a (.rA 19 (.z (.a (.v 10) .b))) (.a (.DC 20 (.v 6) UL) (.a (.oM (.w (.v 0) 16 (.a (.p (.a (.h [114,101,116]) .b)) .b))) (.a (.CF (.v 18)) .b)))) (bu e 18 (.d ((L++[In.i]++c).d In.b).a)) d (λfl e g=>match fl with
    |.b v=>Q v g
    |.a=>Q .h g
    |_=>cR) (λ_ g=>X g):=by
  intro i d b hi f;have h:=hi▸h;refine aH (e:=bu e 18 _) (i:=10) B (aH (e:=bu (bu e 18 _) 19 _) (i:=6) h6 ?_);have t:Cx F (d++[.a [.d a]]) (L++([In.g (p+1+c.a)]++c++i)) ((r.sz+1)::o):=⟨f.H,cI f.B,f.E.Ez,f.I⟩;have V:NY {F with b:=d++[.a [.d a]]} d.a a:=⟨dW (a7.g f.B).1,bO⟩;refine (LY K r).2 hw n hn {F with b:=d++[.a [.d a]]} d.a a _ _ _ _ _ 20 19 _ _ V (show _=p+1+c.a+i.a by rw [← ag,← ag];exact ln (ln (ln (v:=[In.g (p+1+c.a)]) O))) t.W.z G h2 af (by decide) (by decide) (by decide) ?_;refine Ey.of (λe=>XT.adI) h λz e₃ N Y H h=>?_;refine mq ?_;intro W;refine aH ((Y 0 (by decide)).b G) ((c8 K .e Z H λJ k=>?_ :));exact aH (Y 18 (by decide)) (h _ _ ((kb _ _ ⟨f.H,k.B,t.E.cq k.E,k.I⟩).O (by simp only [ag,eF,d9])))
 refine gd ?_;intro e9;refine aH (e:=bu e 18 _) (i:=10) B (aH (e:=bu e 18 _) (i:=13) C ?_);refine Gh (λj=>?_) λj=>?_
 ·have j:s<a:=cM.g j;refine mq ?_;intro W;refine gd ?_;intro e9;refine aH (e:=bu e 18 _) (i:=0) G (cm l (K.b 16 af af) ?_);refine aH (e:=bu e 18 _) (i:=10) B (aH (e:=bu e 18 _) (i:=13) C ?_);refine Nj K (.v (a-s)) (v:=.f [.c vA,.d ((a:aU)-(s:aU))]) (dw (uH (dK j)) af) Z l.z λd f=>(u [.v (a-s)] d [] ?_ (f.O (by simp only [ag,eF,d9])));cases hq:a-s with
  |zero=>exact bZ (Nat.sub_eq_zero_iff_le.g hq) (qi j)
  |succ m=>rfl
 ·refine u [] w [] ?_ ((l.R (y:=r.sz+1) (aF _ _)).O (by rw [bD];rfl));exact aA (hW (iJ λq=>j (cM.i q))) af
theorem NP (e:σ[a]?=ah (.a l))(d:σ[b]?=ah (.a l'))(c:l.a+l'.a<=gL)(q:Q (.e σ.a) (σ++[.a (l++l')])):Lj .a (.e a) (.e b) σ Q:=bk e (bk d ⟨c,q⟩)
theorem abf (K:Core T D)(vs:ao (Tx×aJ aB))(b:Bl)(B:St)(hps:NS T D b):XR T D (.e vs b B):=by
 intro C n y F L p q x u Q X f I hp h;refine oE y λn y=>?_;have y:=bj.g y;have m:=bj.g y.1;have C:=ae.g C;have o:q.a+(vs.a+b.j)<=900000:=ab (rR (Nat.le_add_right_of_le (ar (ar (rR (ak _ _)) _) _))) f.I;have hnl:=AH b;have G:=ab (ar (ar hnl _) _) o;have V:(lr q).a+(lr vs).a=q.a+vs.a:=congr (aW _ (Ed q)) (Ed vs);have l2:(lr q++lr vs).a+b.i.a<=900000:=ab (aV ((aW (·+_) (ai.b V)).b (bW _ _ _))) G;have l1:(lr q).a+(lr vs).a<=gL:=ab (aV ai.h) (ab (ak _ _) (ab l2 (aa af)));refine cm f (K.b 17 af af) (bU (K.e 17 af af) af ?_);intro zC zE zQ zX;refine b8 (Qk q) (b8 (Qj vs) ?_);refine NP (cI bO) bO l1 (b8 (Hw b C.1) ?_);refine NP (cI bO) bO (ab l2 (by decide)) (bk bO ⟨?_,?_⟩)
 ·refine aA ai ?_;exact ab l2 (by decide)
 refine b8 (qV _) (Q9 K m.1 (l:=lr q++lr vs++b.i) (AW (AW (H6 q) (H6 vs)) (AU b)) (σ₀:=u) _ 0 _ _ af af bO (((((jL.ig u).eP.eP).eP).eP).eP) ?_);have h:XT F (match qb [] (lr q++lr vs++b.i) with
  |false=>.i
  |true=>(tU (j8 [] 3 q).1 (j8 [] 3 q).2 vs).g λw=>
   (oz F.a w.1 (p+1) b).g λc=>
   (iw (c.2::F.a) w.2 (p+1+c.1.a+(oS (w.2-(j8 [] 3 q).2)).a) B).g λd=>.e ([.g (p+1+c.1.a)]++c.1++oS (w.2-(j8 [] 3 q).2)++d++[.e])) L x Q X:=h
 revert h;refine aA List.take_zero ?_;cases qb [] (lr q++lr vs++b.i) with
 |false=>exact λh e u=>h _
 |true=>
  intro h e' a z A;refine aH (e:=bu (bu e' 9 _) 10 _) (i:=2) (z 2 (by decide)) (bk (cI (cI (A.wB f.N))) ?_);refine bk bO ⟨by rw [ay];refine aA mK ?_;exact ab (az f.H.b) (aa af),?_⟩;have P:jL u (a++[MO.d []]++[MO.a [.e a.a]]++[MO.a (F.d.B.d AV.e++[.e a.a])]):=A.eP.eP.eP;have O:Cx ⟨F.r,F.t,(a++[MO.d []]++[MO.a [.e a.a]]).a,a.a::F.d,[]::F.a,a++[MO.d []]++[MO.a [.e a.a]]++[MO.a (F.d.B.d AV.e++[.e a.a])]⟩ (a++[MO.d []]++[MO.a [.e a.a]]++[MO.a (F.d.B.d AV.e++[.e a.a])]) L ((q.a+(Bl.e vs b B).j)::x):=
   ⟨⟨⟨_,P.wB f.B⟩,P.wB f.M,by refine aA bO (aA jm (aA cw ?_));rfl,⟨cI (cI bO),oX.XQ (λd _ s hs=>P.wB hs) f.J⟩,by refine aA ai (aA ai ?_);exact dW (qk _ (qk _ ((a7.g (A.wB f.B)).1))),ab (Nat.succ_le_of_lt (aS (cX (cp _)) I)) (aa af)⟩,P.wB f.B,fR.oW _ _,f.I⟩
  have J:u.a<=a.a:=A.1;have v:a.a∉F.d:=λhm=>bZ (f.J.lt _ hm) (eg J);refine gd ?_;intro e9;refine aH (e:=bu (bu (bu e' 9 _) 10 _) 2 _) (i:=3) (z 3 (by decide)) ?_;refine Qn q [] 3 _ _ af af O.J.1 (aQ (show [].a+q.a<=900000 by refine aA List.length_nil ?_;rw [dJ];exact ab (ak _ _) o) (by decide)) λe2 σ₄ k N r k4=>?_;have pl:=DY q [] 3;have f0:=(k 0 (by decide) (by decide) (by decide)).b (z 0 (by decide));have f4:=(k 4 (by decide) (by decide) (by decide)).b (z 4 (by decide));have f5:=(k 5 (by decide) (by decide) (by decide)).b (z 5 (by decide));have f6:=(k 6 (by decide) (by decide) (by decide)).b (z 6 (by decide));have f9:=k 9 (by decide) (by decide) (by decide);refine aH N (aH (e:=bu e2 13 _) (i:=4) f4 ?_);have V:=ab (aj (ab pl (aV (dJ _))) _) G;refine PD K m.1 vs (j8 [] 3 q).1 (j8 [] 3 q).2 (bu e2 13 _) _ f9 N r (aQ (ab (ar (ak _ _) _) V) (aa af)) ?_;revert h;cases hve:tU (j8 [] 3 q).1 (j8 [] 3 q).2 vs with
  |j=>exact λh=>h.e
  |i=>exact λh e u=>h _
  |e w=>
   intro h e3 Z j M H k5;obtain ⟨_,hw1⟩:=yE _ _ _ _ hve;have i0:=(j 0 (by decide) (by decide) (by decide)).b f0;have i2:=(j 2 (by decide) (by decide) (by decide)).b (k 2 (by decide) (by decide) (by decide));refine aH i0 ((c8 K .i m.1 ((O.V v k4 r).V v k5 H).z.Y.z.Y.z λY c6=>?_ :));refine aH (e:=bu e3 15 _) (i:=5) ((j 5 (by decide) (by decide) (by decide)).b f5) (hps C.1 n m.2 F.r F.t _ _ F.d w.1 F.a _ _ (p+1) _ _ (bu e3 15 _) _ _ c6.z v ?_ (aQ (ab (aj hw1 _) (ab (aV (bW _ _ _)) V)) (aa af)) (ln hp) i0 i2 ((j 9 (by decide) (by decide) (by decide)).b f9) ?_)
   ·exact ab (aV (bo _ 1 _)) (ab (az (ar (ab (cJ 1 _) (da _ B.fu)) _)) I)
   have h:XT F ((oz F.a w.1 (p+1) b).g λc=>
    (iw (c.2::F.a) w.2 (p+1+c.1.a+(oS (w.2-(j8 [] 3 q).2)).a) B).g λd=>.e ([.g (p+1+c.1.a)]++c.1++oS (w.2-(j8 [] 3 q).2)++d++[.e])) L x Q X:=h
   revert h;cases oz F.a w.1 (p+1) b with
   |j=>exact λh=>h.e
   |i=>exact λh e u=>h _
   |e c=>
    intro h e4 W g cx5 k7;refine abd K (F₀:=F) C.2 y.2 m.1 cx5 hp ((g 0 (by decide) (by decide) (by decide)).b i0) ((g 2 (by decide) (by decide) (by decide)).b i2) ((g 6 (by decide) (by decide) (by decide)).b ((j 6 (by decide) (by decide) (by decide)).b f6)) ((g 10 (by decide) (by decide) (by decide)).b M) ((g 13 (by decide) (by decide) (by decide)).b (j 13 (by decide) (by decide) (by decide))) ?_ (λσ' L' c=>?_) h
    ·exact (g 15 (by decide) (by decide) (by decide)).b (dw hp af)
    ·exact ⟨f.H,c.B,wz.adG ((f.E.cq A.aby).cq (jL.ig _).eP.eP.eP.aby) (ab f.E.1 J) (((((fR.XN (t:=F.t) k4).A1 (fR.XN k5)).A1 c6.E.to2).A1 k7).A1 c.E.to2),c.I⟩
theorem Xx (K:Core T D)(b:Bl):XR T D b/\NS T D b:=by
 induction b with
 |e e g f h=>exact ⟨abf K e g f h.2,λa=>by injection a⟩
 |h=>exact ⟨(λa=>by injection a),Wg⟩
 |g x q b r d c=>exact ⟨(λa=>by injection a),Qi K x q b r d.1 c.2⟩
end
noncomputable def Ht (a b:aU):aU:=match bg (a*b<0) with
 |true=>-((a.o:aU).lD (b.o:aU))
 |false=>(a.o:aU).lD (b.o:aU)
noncomputable def jc (a:aU):bC:=bg (a.o<2 ^ 1000)
noncomputable def JB (b:bC):aU:=if b then 1 else 0
noncomputable def AA (c:bC)(a b:aU):R aU:=match bg (b=0) with
 |true=>.i
 |false=>match jc a&&jc b with
  |true=>(match c with
   |true=>.e (Ht a b)
   |false=>.e (a-Ht a b*b))
  |false=>.j
noncomputable def ua (s:Tx)(a b:aU):R aU:=
 match bT s [43] with
 |true=>.e (a+b)
 |false=>
 match bT s [45] with
 |true=>.e (a-b)
 |false=>
 match bT s [42] with
 |true=>(match jc a&&jc b with
  |true=>.e (a*b)
  |false=>.j)
 |false=>
 match bT s [100,105,118] with
 |true=>AA ax a b
 |false=>
 match bT s [109,111,100] with
 |true=>AA aw a b
 |false=>
 match bT s [61] with
 |true=>.e (JB (bg (a=b)))
 |false=>
 match bT s [60,62] with
 |true=>.e (JB (!bg (a=b)))
 |false=>
 match bT s [60] with
 |true=>.e (JB (bg (a<b)))
 |false=>
 match bT s [60,61] with
 |true=>.e (JB (bg (a<=b)))
 |false=>
 match bT s [62] with
 |true=>.e (JB (bg (a>b)))
 |false=>.e (JB (bg (a ≥ b)))
theorem Wd (a b:aU):(Ht a b).o<=a.o:=by
 have:((a.o:aU).lD (b.o:aU)).o<=a.o:=by
  refine aA (Int.fdiv_eq_ediv_of_nonneg _ (bq _)) ?_;rw [← Int.natCast_ediv,Int.natAbs_natCast];exact Nat.div_le_self _ _
 unfold Ht;cases bg (a*b<0)
 ·exact this
 ·rw [Bb];exact this
noncomputable def eM (st:ao aU):aB->aB->aJ aB
 |0,b=>ah b
 |l+1,b=>match st[b]? with
  |some (.ofNat v)=>eM st l v
  |_=>aq
section
variable {T:dt}{D:aB->aJ cO}
theorem yH (h:(jc a&&jc b)=ax):a.o<2 ^ 1000/\b.o<2 ^ 1000:=⟨aX (ae.g h).1,aX (ae.g h).2⟩
def abq (res:R aU)(σ:a8)(Q:QV)(X:QX):Prop:=match res with
 |.e v=>Q (.d v) σ
 |.i=>X σ
 |.j=>cR
theorem Tg (c:bT s [100,105,118]=j)(i:∀v e σ,Q v σ->QQ (.b v) e σ)(n:∀e σ,X σ->XX e σ)(e0:e 0=ah (.c s))(p:e 1=ah (.d a))(o:e 2=ah (.d b))(h:abq (AA j a b) σ Q X) :
  di T C (.a (.vj (.q .a (.v 2) (.d 0)) (.a (.wb (.h [122,101,114,111])) .b) .b) (.a (.rA 3 (.n .e (.r .d (.a (.v 1) .b)) (.r .d (.a (.v 2) .b)))) (.a (.vj (.q .c (.n .d (.v 1) (.v 2)) (.d 0)) (.a (.rA 3 (.M (.v 3))) .b) .b) (.a (.vj (.q .a (.v 0) (.h [100,105,118])) (.a (.CF (.v 3)) .b) .b) (.a (.CF (.n .c (.v 1) (.n .d (.v 3) (.v 2)))) .b))))) e σ QQ XX:=by
 unfold AA at h;refine en3 e e0 p o ?_;intro z;refine (fE (λg=>?_) λg=>?_)
 ·have h:=g▸h;exact n _ _ h
 rw [g] at h;revert h;cases m:jc a&&jc b with
 |false=>exact λh=>h.e
 |true=>
  obtain ⟨k,d⟩:=yH m;have f:=aQ (Wd a b) k;intro h;refine dX (λq=>(cV g) (Int.natAbs_eq_zero.g (kQ q))) d ?_;refine dX k d ?_;unfold Ht at h f;refine fE (λl=>?_) λl=>?_
  all_goals
   rw [show bg (a*b<0)=_ from l] at h f
  ·refine ?_;cases j
   ·refine r0 (b:=bT s [100,105,118]) c ?_;exact dX f d (i _ _ _ h)
   ·refine wX (b:=bT s [100,105,118]) c ?_;exact i _ _ _ h
  ·refine ?_;cases j
   ·refine r0 (b:=bT s [100,105,118]) c ?_;exact dX f d (i _ _ _ h)
   ·refine wX (b:=bT s [100,105,118]) c ?_;exact i _ _ _ h
theorem Hs (K:Core T D)(r:1<=n)(h:abq (ua s a b) σ Q X):bp T D n 24 [.c s,.d a,.d b] σ Q X:=by
 refine oE r λn z=>?_;refine bU (K.e 24 af af) af ?_;intro x w u t;unfold ua at h;refine fE (λo=>?_) λo=>?_
 ·have h:=o▸h;exact h
 have h:=o▸h;refine fE (λm=>?_) λm=>?_
 ·have h:=m▸h;exact h
 have h:=m▸h;refine fE (λl=>?_) λl=>?_
 ·have h:=l▸h;revert h;cases p:jc a&&jc b with
  |false=>exact λh=>h.e
  |true=>exact λh=>dX ((yH p).1) ((yH p).2) h
 have h:=l▸h;refine fE (λd=>?_) λd=>?_
 ·have h:=d▸h;exact Tg d (λv e σ q=>q) (λe σ q=>q) af af af h
 have h:=d▸h;refine fE (λk=>?_) λk=>?_
 ·have h:=k▸h;exact Tg d (λv e σ q=>q) (λe σ q=>q) af af af h
 have h:=k▸h;refine fE (λj=>?_) λj=>?_
 ·have h:=j▸h;exact h
 have h:=j▸h;refine fE (λi=>?_) λi=>?_
 ·have h:=i▸h;exact h
 have h:=i▸h;refine fE (λg=>?_) λg=>?_
 ·have h:=g▸h;exact h
 have h:=g▸h;refine fE (λf=>?_) λf=>?_
 ·have h:=f▸h;exact h
 have h:=f▸h;refine fE (λc=>?_) λc=>?_
 ·rw [c] at h;exact h
 rw [c] at h;exact h
theorem q5 {r k:aB}{l:ao aU}(b:σ[r]?=ah (.a (l.d .d)))(a:l[k]?=ah v)(q:Q (.d v)):qI (.e r) (.d (k:aU)) σ Q:=
 Ck b (jb (by rw [ay];exact (a7.g a).1)) (cS▸a▸af) q
theorem uv (K:Core T D){st:ao aU}{σ:a8}(s:1<=n)(r:σ[so]?=ah (.a (st.d .d)))(a:eM st l b=ah b')(h:Q (.d b') σ):bp T D n 23 [.e so,.d b,.d l] σ Q X:=by
 refine oE s λn y=>?_;refine bU (K.e 23 af af) af ⟨l+1,?_⟩;have c:∀(l b:aB) (e:Ev) (d:QF) (f:XS),(∀m,m 1=ah (.d b')->d .a m σ)->eM st l b=ah b'->e 0=ah (.e so)->e 1=ah (.d b)->e 2=ah (.d l)->
   qm (ey T (bp T D n) UB) (di T (bp T D n) UD) (l+1) e σ d f:=by
  intro l
  induction l with
  |zero=>intro b e d f g a o k j;injection a with a;subst a;exact aH j (g e k)
  |succ l p=>
   intro b e d f g a o k j;have a:(match st[b]? with
    |some (.ofNat v)=>eM st l v
    |_=>aq)=ah b':=a
   revert a;cases q:st[b]? with
   |none=>intro a;injection a
   |some v=>
    cases v with
    |negSucc v=>intro a;injection a
    |ofNat v=>
     intro a;refine en3 e o k j ?_;intro z;refine (wX (b:=bg (((l+1:aB):aU)>0)) (bF (cM.i (cp l))) ?_);refine q5 r q ?_;exact p v (bu (bu z 1 (.d (gc v))) 2 _) d f g a af af (aW (λi=>ah (AV.d i)) (cT (l:aU) 1))
 exact c l b _ _ _ (λm t=>aH t h) a af af af
end
structure MS where
 c:ao aU
 b:aB
 a:aB
 o:ao aU
 f:aU
inductive A0 (code:ao In):MS->MS->Prop
 |j {st b pc o f} {n:aB}:code[pc]?=ah (.o n)->st.a<900000->A0 code ⟨st,b,pc,o,f⟩ ⟨st++[(n:aU)],b,pc+1,o,f⟩
 |c {st b pc o f l a b' v}:code[pc]?=ah (.h l a)->st.a<900000->eM st l b=ah b'->st[b'+a]?=ah v->A0 code ⟨st,b,pc,o,f⟩ ⟨st++[v],b,pc+1,o,f⟩
 |h {st b pc o f l a b'}:code[pc]?=ah (.r l a)->st.a<900000->eM st l b=ah b'->A0 code ⟨st,b,pc,o,f⟩ ⟨st++[((b'+a:aB):aU)],b,pc+1,o,f⟩
 |C {st b pc o f l a b' v}:code[pc]?=ah (.u l a)->eM st l b=ah b'->b'+a<st.a->A0 code ⟨st++[v],b,pc,o,f⟩ ⟨st.w (b'+a) v,b,pc+1,o,f⟩
 |i {st b pc o f} {a:aB} {v}:code[pc]?=ah .t->st.a<900000->st[a]?=ah v->A0 code ⟨st++[(a:aU)],b,pc,o,f⟩ ⟨st++[v],b,pc+1,o,f⟩
 |k {st b pc o f} {a:aB} {v}:code[pc]?=ah .k->a<st.a->A0 code ⟨st++[(a:aU)]++[v],b,pc,o,f⟩ ⟨st.w a v,b,pc+1,o,f⟩
 |r {st b pc o f} {n:aB} {v:aU}:code[pc]?=ah (.q n)->0<=v->v<(n:aU)->A0 code ⟨st++[v],b,pc,o,f⟩ ⟨st++[v],b,pc+1,o,f⟩
 |z {st b pc o f} {v:aU}:code[pc]?=ah (.d Cd)->A0 code ⟨st++[v],b,pc,o,f⟩ ⟨st++[-v],b,pc+1,o,f⟩
 |A {st b pc o f} {v:aU}:code[pc]?=ah (.d rZ)->A0 code ⟨st++[v],b,pc,o,f⟩ ⟨st++[v.fmod 2],b,pc+1,o,f⟩
 |d {st b pc o f s} {x y v:aU}:code[pc]?=ah (.d s)->cF s wW=ax->st.a<900000->ua s x y=.e v->A0 code ⟨st++[x]++[y],b,pc,o,f⟩ ⟨st++[v],b,pc+1,o,f⟩
 |g {st b pc o f p}:code[pc]?=ah (.g p)->A0 code ⟨st,b,pc,o,f⟩ ⟨st,b,p,o,f⟩
 |u {st b pc o f p} {v:aU}:code[pc]?=ah (.c p)->v=0->A0 code ⟨st++[v],b,pc,o,f⟩ ⟨st,b,p,o,f⟩
 |w {st b pc o f p} {v:aU}:code[pc]?=ah (.c p)->v≠0->A0 code ⟨st++[v],b,pc,o,f⟩ ⟨st,b,pc+1,o,f⟩
 |t {st b pc o f n}:code[pc]?=ah (.v n)->st.a+n<=900000->A0 code ⟨st,b,pc,o,f⟩ ⟨st++cZ n 0,b,pc+1,o,f⟩
 |q {st as b pc o f l a n b'}:code[pc]?=ah (.m l a n)->as.a=n->(st++as).a<=900000->eM (st++as) l b=ah b'->A0 code ⟨st++as,b,pc,o,f⟩ ⟨st++[(b':aU),(b:aU),((pc+1:aB):aU)]++as,st.a,a,o,f⟩
 |B {st st' l b pc o f} {b' p':aB}:code[pc]?=ah .e->b=st.a->b≠0->A0 code ⟨st++[l,(b':aU),(p':aU)]++st',b,pc,o,f⟩ ⟨st,b',p',o,f⟩
 |F {st b pc o f} {v:aU}:code[pc]?=ah .w->o.a<900000->A0 code ⟨st++[v],b,pc,o,f⟩ ⟨st,b,pc+1,o++[v],f⟩
 |E {st b pc o f}:code[pc]?=ah .f->1<=f->A0 code ⟨st,b,pc,o,f⟩ ⟨st,b,pc+1,o,f-1⟩
inductive Mnd (code:ao In):MS->aJ (ao aU)->Prop
 |a {st b pc o f} {n:aB} {v:aU}:code[pc]?=ah (.q n)->¬ (0<=v/\v<(n:aU))->Mnd code ⟨st++[v],b,pc,o,f⟩ aq
 |d {st b pc o f s} {x y:aU}:code[pc]?=ah (.d s)->cF s wW=ax->ua s x y=.i->Mnd code ⟨st++[x]++[y],b,pc,o,f⟩ aq
 |c {st pc o f}:code[pc]?=ah .e->Mnd code ⟨st,0,pc,o,f⟩ (ah o)
 |g {st b pc o f}:code[pc]?=ah .f->f<1->Mnd code ⟨st,b,pc,o,f⟩ aq
inductive A2 (code:ao In):MS->aJ (ao aU)->Prop
 |a {m m' res}:A0 code m m'->A2 code m' res->A2 code m res
 |d {m res}:Mnd code m res->A2 code m res
structure RI (code:ao In)(σ₀:a8)(so oo:aB)(m:MS)(e:Ev)(σ:a8):Prop where
 v:e 0=ah (.f (code.d In.b))
 w:e 1=ah (.d m.f)
 y:e 2=ah (.e so)
 A:e 3=ah (.d m.b)
 B:e 4=ah (.d m.a)
 E:e 5=ah (.e oo)
 n:σ[so]?=ah (.a (m.c.d .d))
 s:σ[oo]?=ah (.a (m.o.d .d))
 q:so≠oo
 x:jL σ₀ σ
 t:σ₀.a<=so
 u:σ₀.a<=oo
theorem vy (l:ao aU)(x:aU):l.d AV.d++[AV.d x]=(l++[x]).d AV.d:=by refine aA cw ?_;rfl
section
variable {T:dt}{D:aB->aJ cO}{code:ao In}{σ₀:a8}{so oo:aB}{m:MS}{e:Ev}{σ:a8}
theorem RI.p (h:RI code σ₀ so oo m e σ)(a:MS){c:a8}(d:c=σ.w so (.a (a.c.d .d)))(f:a.o=m.o)(e0:b 0=ah (.f (code.d In.b)))(l:b 1=ah (.d a.f))(k:b 2=ah (.e so))(j:b 3=ah (.d a.b))(i:b 4=ah (.d a.a))(g:b 5=ah (.e oo)):RI code σ₀ so oo a b c:=by
 subst d;exact ⟨e0,l,k,j,i,g,eL h.n,(bA h.q).b (aA f h.s),h.q,h.x.GG h.t,h.t,h.u⟩
theorem RI.F (h:RI code σ₀ so oo m e σ)(a:MS)(c:a.c=m.c)(d:a.o=m.o)(e0:b 0=ah (.f (code.d In.b)))(k:b 1=ah (.d a.f))(j:b 2=ah (.e so))(i:b 3=ah (.d a.b))(g:b 4=ah (.d a.a))(f:b 5=ah (.e oo)):RI code σ₀ so oo a b σ:=
 ⟨e0,k,j,i,g,f,aA c h.n,aA d h.s,h.q,h.x,h.t,h.u⟩
theorem Jt {st:ao aU}(a:st.a<900000):(st.d AV.d).a<gL:=by rw [ay];exact S3 a
theorem stS:σ.w so (.a (st.d AV.d++[.d v]))=σ.w so (.a ((st++[v]).d .d)):=by rw [vy]
theorem ZO {m:MO}:(σ.w so m).w so (.a (st.d AV.d++[.d v]))=σ.w so (.a ((st++[v]).d .d)):=by rw [nc,vy]
theorem pN:∀(st:ao aU) (k:aB) (v:aU),(st.d AV.d).w k (.d v)=(st.w k v).d .d
 |[],_,_=>af
 |_::_,0,_=>af
 |x::st,k+1,v=>aW (_::·) (pN st k v)
theorem Cg:lZ (-1) (n+1)=ah n:=by
 unfold lZ;refine aA (dA (by decide)) (aA (show -1+((n+1:aB):aU)=n by rw [iy];exact cT (n:aU) 1) (aA (c7 (bq n)) ?_));rfl
theorem xo (a:σ[so]?=ah (.a ((st++[v]).d .d)))(q:Q (.d v)):qI (.e so) (.d (-1)) σ Q:=by
 refine Ck (k:=st.a) a (by rw [ay];refine aA ai ?_;exact Cg) ?_ q;refine aA cS (aA eJ ?_);rfl
theorem yL (b:σ[so]?=ah (.a ((st++[v]).d .d)))(q:P (σ.w so (.a ((st++[w]).d .d)))):mr (.e so) (.d (-1)) (.d w) σ P:=by
 rw [← vy] at b q;refine bk b (b8 (a:=(st.d AV.d).a) (by refine aA ai ?_;exact Cg) ?_);refine aA (lJ _ _ (au _)) ?_;rw [k9];exact q
noncomputable def Rt:Ss:=match gm with
 |.a _ (.a _ (.a _ r))=>r
 |_=>.b
noncomputable def rv (code:ao In)(so oo:aB)(m:MS)(e:Ev):Ev:=bu (bu (bu (bu (bu (bu e 0 (.f (code.d In.b))) 1 (.d m.f)) 2 (.e so)) 3 (.d m.b)) 4 (.d m.a)) 5 (.e oo)
theorem RI.G (r:RI code σ₀ so oo m e σ):rv code so oo m e=e:=by
 unfold P.rv;exact aA (ik r.v) (aA (ik r.w) (aA (ik r.y) (aA (ik r.A) (aA (ik r.B) (aA (ik r.E) af)))))
theorem RI.o (r:RI code σ₀ so oo m e σ)(b:code[m.a]?=ah i)
  (h:let z:Ev:=bu (bu (P.rv code so oo m e) 6 i.b) 4 (.d (m.a+1:aB))
   qI i.b (.d 0) σ λk=>di T C Rt (bu z 7 k) σ QQ XX):di T C gm e σ QQ XX:=by
 refine dw r.G ?_;refine b8 (jb (by rw [ay];exact (a7.g b).1)) ?_;exact b8 (a:=i.b) (cS▸b▸af) h
end
section
variable {T:dt}{D:aB->aJ cO}{code:ao In}{σ₀:a8}{so oo:aB}{st:ao aU}{b pc:aB}{o:ao aU}{f:aU}{e:Ev}{σ:a8}{n:aB}{QQ:QF}{XX:XS}
theorem WO (d:st.a<900000)(r:RI code σ₀ so oo ⟨st,b,pc,o,f⟩ e σ)(g:code[pc]?=ah (.o k))(q:∀c a,RI code σ₀ so oo ⟨st++[(k:aU)],b,pc+1,o,f⟩ c a->QQ .a c a):di T (bp T D n) gm e σ QQ XX:=by
 refine r.o g ?_;intro z;refine bk r.n (bk r.n ⟨Jt d,?_⟩);exact q _ _ (r.p ⟨st++[(k:aU)],b,pc+1,o,f⟩ stS af af af af af af af)
theorem WN (K:Core T D)(h:1<=n)(i:st.a<900000)(m:eM st l b=ah b')(g:st[b'+a]?=ah v)(r:RI code σ₀ so oo ⟨st,b,pc,o,f⟩ e σ)(j:code[pc]?=ah (.h l a))(q:∀d c,RI code σ₀ so oo ⟨st++[v],b,pc+1,o,f⟩ d c->QQ .a d c):di T (bp T D n) gm e σ QQ XX:=by
 refine r.o j ?_;intro z;refine bk r.n ?_;refine ⟨K.b 23 af af,?_⟩;refine uv K h r.n m (q5 (k:=b'+a) r.n g ?_);refine bk r.n ⟨Jt i,?_⟩;exact q _ _ (r.p ⟨st++[v],b,pc+1,o,f⟩ stS af af af af af af af)
theorem WR (K:Core T D)(g:1<=n)(h:st.a<900000)(j:eM st l b=ah b')(r:RI code σ₀ so oo ⟨st,b,pc,o,f⟩ e σ)(i:code[pc]?=ah (.r l a))(q:∀d c,RI code σ₀ so oo ⟨st++[((b'+a:aB):aU)],b,pc+1,o,f⟩ d c->QQ .a d c):di T (bp T D n) gm e σ QQ XX:=by
 refine r.o i ?_;intro z;refine bk r.n ?_;refine ⟨K.b 23 af af,?_⟩;refine uv K g r.n j (bk r.n ⟨Jt h,?_⟩);exact q _ _ (r.p ⟨st++[((b'+a:aB):aU)],b,pc+1,o,f⟩ stS af af af af af af af)
theorem WH (K:Core T D)(i:1<=n)(k:eM st l b=ah b')(h:b'+a<st.a)(r:RI code σ₀ so oo ⟨st++[v],b,pc,o,f⟩ e σ)(j:code[pc]?=ah (.u l a))(q:∀g c,RI code σ₀ so oo ⟨st.w (b'+a) v,b,pc+1,o,f⟩ g c->QQ .a g c):di T (bp T D n) gm e σ QQ XX:=by
 refine r.o j ?_;intro z;refine bk r.n (bk r.n (fF _ _ ((vy st v).h) ?_));have d:=eL (m:=.a (st.d AV.d)) r.n;refine ⟨K.b 23 af af,?_⟩;refine uv K i d k (bk d ?_);refine b8 (o:=lZ ((b'+a:aB):aU) _) (jb (by rw [ay];exact h)) ?_;exact q _ _ (r.p ⟨st.w (b'+a) v,b,pc+1,o,f⟩ (by rw [nc,pN]) af af af af af af af)
theorem WQ {a:aB}(i:st.a<900000)(h:st[a]?=ah v)(r:RI code σ₀ so oo ⟨st++[(a:aU)],b,pc,o,f⟩ e σ)(j:code[pc]?=ah (.t))(q:∀g c,RI code σ₀ so oo ⟨st++[v],b,pc+1,o,f⟩ g c->QQ .a g c):di T (bp T D n) gm e σ QQ XX:=by
 refine r.o j ?_;intro z;refine bk r.n ?_;refine (bk r.n ?_);refine bk r.n (fF _ _ ((vy st a).h) ?_);have d:=eL (m:=.a (st.d AV.d)) r.n;refine q5 d h (bk d ⟨Jt i,?_⟩);exact q _ _ (r.p ⟨st++[v],b,pc+1,o,f⟩ ZO af af af af af af af)
theorem WI (h:a<st.a)(r:RI code σ₀ so oo ⟨st++[(a:aU)]++[v],b,pc,o,f⟩ e σ)(i:code[pc]?=ah (.k))(q:∀g d,RI code σ₀ so oo ⟨st.w a v,b,pc+1,o,f⟩ g d->QQ .a g d):di T (bp T D n) gm e σ QQ XX:=by
 refine r.o i ?_;intro z;refine bk r.n (bk r.n (fF _ _ ((vy _ v).h) ?_));have c:=eL (m:=.a ((st++[(a:aU)]).d AV.d)) r.n;refine bk c (bk c (fF _ _ ((vy st a).h) ?_));refine bk (eL (m:=.a (st.d AV.d)) c) ?_;refine b8 (jb (by rw [ay];exact h)) ?_;exact q _ _ (r.p ⟨st.w a v,b,pc+1,o,f⟩ (by rw [nc,nc,pN]) af af af af af af af)
theorem WU {k:aB}(h:0<=v)(g:v<(k:aU))(r:RI code σ₀ so oo ⟨st++[v],b,pc,o,f⟩ e σ)(d:code[pc]?=ah (.q k))(q:∀c a,RI code σ₀ so oo ⟨st++[v],b,pc+1,o,f⟩ c a->QQ .a c a):di T (bp T D n) gm e σ QQ XX:=by
 refine r.o d ?_;intro z;refine xo r.n (wX (b:=bg (0<=v)) (bF h) ?_);exact r0 (b:=!bg (v<(k:aU))) (aA (bF g) af) (q _ _ (r.F ⟨st++[v],b,pc+1,o,f⟩ af af af af af af af af))
theorem QS {k:aB}(c:¬ (0<=v/\v<(k:aU)))(r:RI code σ₀ so oo ⟨st++[v],b,pc,o,f⟩ e σ)(a:code[pc]?=ah (.q k))(q:∀e σ,XX e σ):di T (bp T D n) gm e σ QQ XX:=by
 refine r.o a ?_;intro z;refine xo r.n (Gh (λh=>?_) λh=>?_)
 ·refine wX (b:=!bg (v<(k:aU))) (aA (bR λd=>c ⟨h,d⟩) af) ?_;exact q _ _
 ·exact q _ _
theorem WM (r:RI code σ₀ so oo ⟨st++[v],b,pc,o,f⟩ e σ)(d:code[pc]?=ah (.d Cd))(q:∀c a,RI code σ₀ so oo ⟨st++[-v],b,pc+1,o,f⟩ c a->QQ .a c a):di T (bp T D n) gm e σ QQ XX:=by
 refine r.o d ?_;intro z;refine xo r.n ?_;exact yL r.n (q _ _ (r.p ⟨st++[-v],b,pc+1,o,f⟩ af af af af af af af af))
theorem WL (r:RI code σ₀ so oo ⟨st++[v],b,pc,o,f⟩ e σ)(d:code[pc]?=ah (.d rZ))(q:∀c a,RI code σ₀ so oo ⟨st++[v.fmod 2],b,pc+1,o,f⟩ c a->QQ .a c a):di T (bp T D n) gm e σ QQ XX:=by
 refine r.o d ?_;intro z;refine xo r.n ⟨af,?_⟩;refine (yL r.n ?_);exact q _ _ (r.p ⟨st++[v.fmod 2],b,pc+1,o,f⟩ af af af af af af af af)
theorem Qr {o:Tx}(h:cF o wW=ax):bT o Cd=aw/\bT o rZ=aw:=by
 unfold wW at h
 iterate 11 (rcases eU h with rfl|h; · exact ⟨af,af⟩)
 injection h
theorem MW (g:cF s wW=ax)(r:RI code σ₀ so oo ⟨st++[x]++[y],b,pc,o,f⟩ e σ)(i:code[pc]?=ah (.d s))(K:Core T D)
  (h:∀a,a 0=ah (.f (code.d In.b))/\a 1=ah (.d f)/\a 2=ah (.e so)/\a 3=ah (.d b)/\a 4=ah (.d (pc+1:aB))/\a 5=ah (.e oo)->bp T D n 24 [.c s,.d x,.d y] ((σ.w so (.a ((st++[x]).d AV.d))).w so (.a (st.d AV.d))) (λv σ=>Zm .a (.e so) [v] σ λw σ=>QQ .a a σ) (XX a)):di T (bp T D n) gm e σ QQ XX:=by
 have d:=Qr g;refine r.o i ?_;intro z;refine (r0 (b:=bT s Cd) d.1 ?_);refine r0 (b:=bT s rZ) d.2 ?_;refine bk r.n (bk r.n (fF _ _ ((vy _ y).h) ?_));have c:=eL (m:=.a ((st++[x]).d AV.d)) r.n;refine (bk c ?_);refine bk c (fF _ _ ((vy st x).h) ?_);refine (bk (eL (m:=.a (st.d AV.d)) c) ?_);refine ⟨K.b 24 af af,?_⟩;exact h _ (yj af af af af af af)
theorem WK (K:Core T D)(h:1<=n)(i:cF s wW=ax)(j:st.a<900000)(g:ua s x y=.e v)(r:RI code σ₀ so oo ⟨st++[x]++[y],b,pc,o,f⟩ e σ)(k:code[pc]?=ah (.d s))(q:∀d c,RI code σ₀ so oo ⟨st++[v],b,pc+1,o,f⟩ d c->QQ .a d c):di T (bp T D n) gm e σ QQ XX:=by
 refine MW i r k K λd a=>Hs K h ?_;refine aA g ?_;refine bk (eL (m:=.a (st.d AV.d)) (eL (m:=.a ((st++[x]).d AV.d)) r.n)) ⟨Jt j,?_⟩;exact q _ _ (r.p ⟨st++[v],b,pc+1,o,f⟩ (by rw [nc];exact ZO) af a.1 a.2.1 a.2.2.1 a.2.2.2.1 a.2.2.2.2.1 a.2.2.2.2.2)
theorem QN (K:Core T D)(c:1<=n)(d:cF s wW=ax)(a:ua s x y=.i)(r:RI code σ₀ so oo ⟨st++[x]++[y],b,pc,o,f⟩ e σ)(g:code[pc]?=ah (.d s))(q:∀e σ,XX e σ):di T (bp T D n) gm e σ QQ XX:=by
 exact MW d r g K λi h=>Hs K c (aA a (q _ _))
theorem WS (r:RI code σ₀ so oo ⟨st,b,pc,o,f⟩ e σ)(d:code[pc]?=ah (.g p))(q:∀c a,RI code σ₀ so oo ⟨st,b,p,o,f⟩ c a->QQ .a c a):di T (bp T D n) gm e σ QQ XX:=by
 exact r.o d (q _ _ (r.F ⟨st,b,p,o,f⟩ af af af af af af af af))
theorem QP (d:v=0)(r:RI code σ₀ so oo ⟨st++[v],b,pc,o,f⟩ e σ)(g:code[pc]?=ah (.c p))(q:∀c a,RI code σ₀ so oo ⟨st,b,p,o,f⟩ c a->QQ .a c a):di T (bp T D n) gm e σ QQ XX:=by
 refine r.o g ?_;intro z;refine bk r.n (bk r.n (fF _ _ ((vy st v).h) ?_));exact wX (b:=bg (v=0)) (bF d) (q _ _ (r.p ⟨st,b,p,o,f⟩ af af af af af af af af))
theorem QO (d:v≠0)(r:RI code σ₀ so oo ⟨st++[v],b,pc,o,f⟩ e σ)(g:code[pc]?=ah (.c p))(q:∀c a,RI code σ₀ so oo ⟨st,b,pc+1,o,f⟩ c a->QQ .a c a):di T (bp T D n) gm e σ QQ XX:=by
 refine r.o g ?_;intro z;refine bk r.n (bk r.n (fF _ _ ((vy st v).h) ?_));exact r0 (b:=bg (v=0)) (bR d) (q _ _ (r.p ⟨st,b,pc+1,o,f⟩ af af af af af af af af))
theorem WT (d:st.a+k<=900000)(r:RI code σ₀ so oo ⟨st,b,pc,o,f⟩ e σ)(h:code[pc]?=ah (.v k))(q:∀g a,RI code σ₀ so oo ⟨st++cZ k 0,b,pc+1,o,f⟩ g a->QQ .a g a):di T (bp T D n) gm e σ QQ XX:=by
 refine r.o h ?_;intro z;refine bk bO (KU 0 af (bq _) (cy.i (ab (aF _ _) (ab d (by decide)))) ?_);have c:=cI (m:=.a (cZ (k:aU).p (.d 0))) (cI (m:=.a [.d 0]) r.n);refine bk c ?_;refine bk bO (dX (b5 (aS (a7.g r.n).1 (by refine aA ai ?_;exact ak _ _))) ?_ ?_)
 ·rw [ay];refine aA gf ?_;exact ab d (by decide)
 exact q _ _ ((show RI code σ₀ so oo ⟨st,b,pc,o,f⟩ e (σ++[.a [.d 0]]++[.a (cZ (k:aU).p (.d 0))]) from ⟨r.v,r.w,r.y,r.A,r.B,r.E,c,cI (cI r.s),r.q,r.x.eP.eP,r.t,r.u⟩).p ⟨st++cZ k 0,b,pc+1,o,f⟩ (by refine aA cw (aA List.map_replicate ?_);rfl) af af af af af af af)
theorem WV (K:Core T D)(j:1<=n)(s:as.a=k)(p:(st++as).a<=900000)(u:eM (st++as) l b=ah b')(r:RI code σ₀ so oo ⟨st++as,b,pc,o,f⟩ e σ)(t:code[pc]?=ah (.m l a k))(q:∀h d,RI code σ₀ so oo ⟨st++[(b':aU),(b:aU),((pc+1:aB):aU)]++as,st.a,a,o,f⟩ h d->QQ .a h d):di T (bp T D n) gm e σ QQ XX:=by
 refine r.o t ?_;intro z;refine bk r.n ?_;have c:(((st++as).d AV.d).a:aU)-(k:aU)=(st.a:aU):=by rw [ay];refine aA ai (aA s ?_);exact (show ((st.a:aU)+(k:aU))-k=_ from cT _ _)
 refine ⟨K.b 23 af af,?_⟩;refine uv K j r.n u ?_;have g:=cI (m:=.a [.d (b':aU),.d (b:aU),.d ((pc+1:aB):aU)]) r.n;refine bk g (bk bO (yj (b5 (a7.g r.n).1) af ?_ ?_ ?_ ?_))
 ·refine aA c ?_;exact bq _
 ·refine aA c ?_;rw [ay,ai];exact cy.i (ak _ _)
 ·rw [ay];exact ab (aj p 3) (aa af)
 refine q _ _ ((show RI code σ₀ so oo ⟨st++as,b,pc,o,f⟩ e (σ++[.a [.d (b':aU),.d (b:aU),.d ((pc+1:aB):aU)]]) from ⟨r.v,r.w,r.y,r.A,r.B,r.E,g,cI r.s,r.q,r.x.eP,r.t,r.u⟩).p ⟨st++[(b':aU),(b:aU),((pc+1:aB):aU)]++as,st.a,a,o,f⟩ ?_ af af af af (aW (λi=>ah (AV.d i)) c) af af);refine aA c ?_;rw [o8,cw,← ay (as:=st) AV.d,z7,List.drop_left,cw,cw];rfl
theorem WJ {b' a:aB}(j:b=st.a)(m:b≠0)(r:RI code σ₀ so oo ⟨st++[l,(b':aU),(a:aU)]++st',b,pc,o,f⟩ e σ)(i:code[pc]?=ah .e)(q:∀d c,RI code σ₀ so oo ⟨st,b',a,o,f⟩ d c->QQ .a d c):di T (bp T D n) gm e σ QQ XX:=by
 subst j;have h:(st++[l,(b':aU),(a:aU)]++st')[st.a+1]?=ah (b':aU):=by rw [ag,dH (ak _ _),gG];rfl
 have g:(st++[l,(b':aU),(a:aU)]++st')[st.a+2]?=ah (a:aU):=by rw [ag,dH (ak _ _),gG];rfl
 refine r.o i ?_;intro z;refine r0 (b:=bg ((st.a:aU)=0)) (bR λq=>m (kQ q)) ?_;refine (q5 (k:=st.a+1) r.n h ?_);refine q5 (k:=st.a+2) r.n g ?_;refine (bk r.n (dX (bq _) ?_ ?_))
 ·rw [ay,ag,ai];exact cy.i (ak _ _)
 refine q _ _ (r.p ⟨st,b',a,o,f⟩ ?_ af af af af af af af);rw [o8,ag,cw,← ay (as:=st) AV.d,z7]
theorem QR (r:RI code σ₀ so oo ⟨st,0,pc,o,f⟩ e σ)(b:code[pc]?=ah .e)(q:∀c a,jL σ₀ a->QQ (.b (.f (o.d .d))) c a):di T (bp T D n) gm e σ QQ XX:=by
 refine r.o b ?_;intro z;refine (bk r.s ?_);exact q _ _ r.x
theorem WG (h:o.a<900000)(r:RI code σ₀ so oo ⟨st++[v],b,pc,o,f⟩ e σ)(i:code[pc]?=ah .w)(q:∀g c,RI code σ₀ so oo ⟨st,b,pc+1,o++[v],f⟩ g c->QQ .a g c):di T (bp T D n) gm e σ QQ XX:=by
 refine r.o i ?_;intro z;refine bk r.s ?_;refine bk r.n (bk r.n (fF _ _ ((vy st v).h) ?_));have d:=(bA (a:=.a (st.d AV.d)) r.q).b r.s;refine bk d ⟨Jt h,?_⟩;exact q _ _ ⟨af,af,af,af,af,af,(bA r.q.h).b (eL (m:=.a (st.d AV.d)) r.n),by refine aA (eL d) ?_;rw [vy],r.q,(r.x.GG r.t).GG r.u,r.t,r.u⟩
theorem QM (g:1<=f)(r:RI code σ₀ so oo ⟨st,b,pc,o,f⟩ e σ)(d:code[pc]?=ah .f)(q:∀c a,RI code σ₀ so oo ⟨st,b,pc+1,o,f-1⟩ c a->QQ .a c a):di T (bp T D n) gm e σ QQ XX:=by
 refine r.o d ?_;intro z;exact r0 (b:=bg (f-1<0)) (bR (dQ.i (jH g))) (q _ _ (r.F ⟨st,b,pc+1,o,f-1⟩ af af af af af af af af))
theorem MU (c:f<1)(r:RI code σ₀ so oo ⟨st,b,pc,o,f⟩ e σ)(a:code[pc]?=ah .f)(q:∀e σ,XX e σ):di T (bp T D n) gm e σ QQ XX:=by
 refine r.o a ?_;intro z;exact wX (b:=bg (f-1<0)) (bF (Int.sub_neg_of_lt c)) (q _ _)
end
section
variable {T:dt}{D:aB->aJ cO}
theorem Wo (h:σ[r]?=ah (.b c b))(a:T.a f=ah c)(p:P r):hY T f (.e r) σ P:=by
 unfold hY;exact IM _ _ _ af h a p
def RQ (res:aJ (ao aU))(σ₀:a8)(QQ:QF)(XX:XS):Prop:=match res with
 |some o=>∀c a,jL σ₀ a->QQ (.b (.f (o.d .d))) c a
 |aq=>∀e b,XX e b
theorem P4 (K:Core T D)(hn:1<=n)(h:A2 code m res)
  (hq:RQ res σ₀ QQ XX):∃k,∀e σ,RI code σ₀ so oo m e σ->qm (ey T (bp T D n) UA) (di T (bp T D n) gm) k e σ QQ XX:=by
 induction h with
 |a s _ ih=>
  obtain ⟨k,hk⟩:=ih hq;refine ⟨k+1,λe σ r=>?_⟩;refine se ?_;intro w9;refine gl ?_;intro g9;cases s with
  |j hi hl=>exact WO hl r hi hk
  |c hi hl hf hv=>exact WN K hn hl hf hv r hi hk
  |h hi hl hf=>exact WR K hn hl hf r hi hk
  |C hi hf hv=>exact WH K hn hf hv r hi hk
  |i hi hl hv=>exact WQ hl hv r hi hk
  |k hi hv=>exact WI hv r hi hk
  |r hi h0 h1=>exact WU h0 h1 r hi hk
  |z hi=>exact WM r hi hk
  |A hi=>exact WL r hi hk
  |d hi hm hl hr=>exact WK K hn hm hl hr r hi hk
  |g hi=>exact WS r hi hk
  |u hi hv=>exact QP hv r hi hk
  |w hi hv=>exact QO hv r hi hk
  |t hi hl=>exact WT hl r hi hk
  |q hi hk' hl hf=>exact WV K hn hk' hl hf r hi hk
  |B hi hb h0=>exact WJ hb h0 r hi hk
  |F hi hl=>exact WG hl r hi hk
  |E hi hf=>exact QM hf r hi hk
 |d s=>
  refine ⟨1,λe σ r=>?_⟩;refine se ?_;intro w9;refine gl ?_;intro g9;cases s with
  |a hi h0=>exact QS h0 r hi hq
  |d hi hm hr=>exact QN K hn hm hr r hi hq
  |c hi=>exact QR r hi hq
  |g hi hf=>exact MU hf r hi hq
def RSp (res:aJ (ao aU))(σ:a8)(Q:QV)(X:QX):Prop:=match res with
 |some o=>∀a,jL σ a->Q (.f (o.d .d)) a
 |aq=>∀a,X a
theorem Ma (K:Core T D)(d:2<=n)(h:A2 code ⟨[0,0,0],0,0,[],f⟩ res)(g:RSp res σ Q X):bp T D n 25 [.f (code.d In.b),.d f] σ Q X:=by
 refine oE d λn d=>?_;refine bU (K.e 25 af af) af ?_;intro q p m l;have c:(σ++[MO.a [.d 0,.d 0,.d 0]]).a=σ.a+1:=ai;obtain ⟨k,i⟩:=P4 (σ₀:=σ) (so:=σ.a) (oo:=(σ++[MO.a [.d 0,.d 0,.d 0]]).a) (n:=n) (QQ:=λj z a=>match j with
  |.b v=>Q v a
  |.a=>Q .h a
  |_=>cR) (XX:=λz b=>X b) K d h (by
  cases res with
  |some o=>exact λr b x=>g _ x
  |none=>exact λe b=>g _)
 exact ⟨k,i _ _ ⟨af,af,af,af,af,af,cI bO,bO,by refine aA c ?_;exact b5 (cA _),(jL.ig σ).eP.eP,au _,by refine aA c ?_;exact bh _⟩⟩
noncomputable def rj (b:Bl):R (ao In):=match b.m aw&&bM b.l 120&&bM b.j 100000 with
 |true=>kG [] 0 [] b
 |false=>.j
theorem xv (K:Core T D)(j:125<=n)(h:Yr (λc:ao In=>.f (c.d In.b)) (rj b) σ Q X):bp T D n 22 [kB (x,b)] σ Q X:=by
 obtain ⟨n,rfl⟩:=JT (ab (aa af) j);refine bU (K.e 22 af af) af ?_;intro r q p o;refine l4 15 K.j (K.b 15 af af) ?_;refine bU (K.e 15 af af) af ?_;intro r q p o;have f:(σ++[MO.b 1 []]++[MO.a []])[σ.a]?=ah (.b 1 []):=cI bO;refine BU f ⟨af,?_⟩;unfold rj at h;refine gl ?_;intro u;cases a:b.m aw&&bM b.l 120&&bM b.j 100000 with
 |false=>have h:=a▸h;exact h.e
 |true=>
  have h:=a▸h;have a:=ae.g a;have d:=ae.g a.1;have l:=aa d.2;have s:jL σ ((σ++[MO.b 1 []]++[MO.a []]).w σ.a (.b 1 [(.r8,.e (σ++[MO.b 1 []]).a)])):=(jL.ig σ).eP.eP.GG (au _);have i:(σ++[MO.b 1 []]).a=σ.a+1:=ai;have t:Cx ⟨σ.a,(σ++[MO.b 1 []]).a,((σ++[MO.b 1 []]++[MO.a []]).w σ.a (.b 1 [(.r8,.e (σ++[MO.b 1 []]).a)])).a,[],[],(σ++[MO.b 1 []]++[MO.a []]).w σ.a (.b 1 [(.r8,.e (σ++[MO.b 1 []]).a)])++[MO.a []]⟩ ((σ++[MO.b 1 []]++[MO.a []]).w σ.a (.b 1 [(.r8,.e (σ++[MO.b 1 []]).a)])++[MO.a []]) [] ((0+b.j)::[]):=by
   have m:((σ++[MO.b 1 []]++[MO.a []]).w σ.a (.b 1 [(.r8,.e (σ++[MO.b 1 []]).a)])++[MO.a []])[(σ++[MO.b 1 []]).a]?=ah (.a []):=cI ((bA (i▸b5 (cA _))).b bO);refine ⟨⟨⟨_,m⟩,cI (eL f),bO,kN,?_,bG _⟩,m,fR.oW _ _,?_⟩
   ·show cC (List.set _ _ _)≠_;refine aA bX (aA ai ?_);exact dW (cA _)
   ·refine aA fX ?_;rw [dJ];exact ab (aV (dJ _)) (ab (aa a.2) (aa af))
  refine Wo (eL f) (K.b 17 af af) (LF ((Xx K b).1 d.1 (n+1) (b7 (ab l (ab (aa af) (aY (aY j))))) _ [] 0 [] [] _ _ _ t (ab (aV (dJ _)) (ab l (aa af))) af ?_));have h:Yr (λc:ao In=>.f (c.d In.b)) (kG [] 0 [] b) σ Q X:=h;revert h;unfold Yr XT;cases kG [] 0 [] b with
  |j=>exact id
  |i=>exact id
  |e c=>
   intro h e k g;refine (gv g ?_ :);exact bk g.B (h e (fR.ext s.eP (i▸bh _) g.E))
inductive Ev3 (text:Tx)(f:aU):aJ (ao aU)->Prop
 |a {q:Tx×Bl} {c res}:j7 text=.e q->rj q.2=.e c->A2 c ⟨[0,0,0],0,0,[],f⟩ res->Ev3 text f res
 |d:j7 text=.i->Ev3 text f aq
 |b {q:Tx×Bl}:j7 text=.e q->rj q.2=.i->Ev3 text f aq
set_option tactic.hygienic true in
theorem Q6 (K:Core T D)(g:130<=n)(h:Ev3 text f res)(d:RSp res σ Q X):bp T D n 26 [.c text,.d f] σ Q X:=by
 refine oE g λn g=>?_;have a:125<=n:=ab (aa af) g;refine bU (K.e 26 af af) af ?_;intro v u t s;refine ⟨K.b 13 af af,?_⟩;refine ue K (ab (aa af) g) ?_;cases h with
 |a e k r=>
  rename_i q c
  refine aA e ?_;intro b l;refine ⟨K.b 22 af af,?_⟩;refine xv K a ?_;refine aA k ?_;intro j p;refine ⟨K.b 25 af af,?_⟩;refine Ma K (ab (aa af) g) r ?_;revert d;unfold RSp;cases res with
  |some o=>exact λd i m=>d _ ((l.gY p).gY m)
  |none=>exact id
 |d e=>exact aA e d
 |b e k=>
  refine aA e ?_;intro b l;refine ⟨K.b 22 af af,?_⟩;exact xv K a (aA k d)
end
noncomputable def s7 (code:ao In):aB->ao In->Prop
 |_,[]=>True
 |p,i::r=>code[p]?=ah i/\s7 code (p+1) r
theorem kF:∀{c d:ao In} {p:aB},s7 code p (c++d)->s7 code p c/\s7 code (p+c.a) d:=by
 intro b
 induction b with
 |nil=>
  intro d p h;exact ⟨kN,h⟩
 |cons i c a=>
  intro d p h;exact ⟨⟨h.1,(a h.2).1⟩,aA (show p+(c.a+1)=p+1+c.a from bo p c.a 1) (a h.2).2⟩
noncomputable def Mn (st:ao aU)(b l a:aB):R aB:=match eM st l b with
 |some c=>.e (c+a)
 |aq=>.j
noncomputable def rd (st:ao aU)(i:aB):R aU:=match st[i]? with
 |some v=>.e v
 |aq=>.j
noncomputable def Wm:aU->R aB
 |.ofNat n=>.e n
 |.negSucc _=>.j
noncomputable def zo (sc:ao cG)(st:ao aU)(b:aB)(x:Tx):R aB:=match eR x sc 0 with
 |some (l,.b a)=>Mn st b l a
 |some (l,.f a)=>(Mn st b l a).g λi=>(rd st i).g Wm
 |_=>.j
noncomputable def HR (sc:ao cG)(st:ao aU)(b:aB)(x:Tx)(i:R aU):R aB:=match eR x sc 0 with
 |some (l,.e a z)=>i.g λv=>match bg (0<=v/\v<(z:aU)) with
  |true=>(Mn st b l a).g λk=>.e (v.p+k)
  |false=>.i
 |_=>.j
noncomputable def kY (sc:ao cG)(st:ao aU)(b:aB):Ex->R aU
 |.h n=>.e n
 |.g x=>(zo sc st b x).g λi=>rd st i
 |.k x e=>(HR sc st b x (kY sc st b e)).g λi=>rd st i
 |.m e=>(kY sc st b e).g λv=>.e (-v)
 |.l e=>(kY sc st b e).g λv=>.e (v.fmod 2)
 |.c o a c=>(kY sc st b a).g λv=>(kY sc st b c).g λw=>ua o v w
def Go (m:R b)(k:b->Prop)(res:aJ (ao aU)):Prop:=match m with
 |.e a=>k a
 |.i=>res=aq
 |.j=>cR
theorem Go.pW {m:R c}{k:b->Prop}(h:Go (m.g f) k res):Go m (λa=>Go (f a) k res) res:=by
 cases m<;>exact h
theorem Go.pV (h:Go m k res)(c:∀a,k a->b a):Go m b res:=by
 cases m with
 |e a=>exact c a h
 |i=>exact h
 |j=>exact h
theorem hZ {st tmp:ao aU}{i:aB}(h:st[i]?=ah v):(st++tmp)[i]?=ah v:=by
 exact aA (cY (a7.g h).1) (aA h af)
theorem kg:∀{l b b':aB},eM st l b=ah b'->eM (st++tmp) l b=ah b':=by
 intro c
 induction c with
 |zero=>
  intro b b' h;exact h
 |succ l a=>
  intro b b' h;have h:(match st[b]? with
   |some (.ofNat v)=>eM st l v
   |_=>aq)=ah b':=h
  show (match (st++tmp)[b]? with
   |some (.ofNat v)=>eM (st++tmp) l v
   |_=>aq)=ah b'
  revert h;cases d:st[b]? with
  |none=>intro h;injection h
  |some v=>
   refine aA (hZ d) ?_;cases v with
   |ofNat n=>exact a
   |negSucc n=>intro h;injection h
def Rm (n k:aB):Prop:=n+k<=800000
theorem Rm.lt (h:Rm n k):n<900000:=aQ (ab (ak _ _) h) (aa af)
theorem Rm.l (h:Rm n (a+b)):Rm n a:=ab (ar (ak _ _) _) h
theorem Rm.r (h:Rm n (a+b)):Rm n b:=ab (ar (aF _ _) _) h
theorem Rm.s (h:Rm n (a+1)):Rm (n+1) a:=ab (aV (bo n 1 a)) h
theorem Rm.NR {v:aU}(h:Rm st.a (a+1)):Rm (st++[v]).a a:=by refine aA ai ?_;exact h.s
section
variable {code:ao In}{b:aB}{o:ao aU}{f:aU}{res:aJ (ao aU)}{sc:ao cG}
theorem uc (h:Go (Mn st b l a) k res):∃b',eM st l b=ah b'/\k (b'+a):=by
 unfold Mn at h;revert h;cases eM st l b with
 |none=>exact λh=>h.e
 |some b'=>exact λh=>bQ b' af h
theorem yQ (h:Go (rd st i) k res):∃v,st[i]?=ah v/\k v:=by
 unfold rd at h;revert h;cases st[i]? with
 |none=>exact λh=>h.e
 |some v=>exact λh=>bQ v af h
theorem HB (h:Go (Wm v) k res):∃n:aB,v=n/\k n:=by
 cases v with
 |ofNat n=>exact bQ n af h
 |negSucc n=>exact h.e
theorem A2.c (h:A2 code ⟨st,b,p,o,f⟩ res)(e:p=q):A2 code ⟨st,b,q,o,f⟩ res:=dw e h
theorem Qu (d:y8 sc x=.e c)(g:s7 code p c)(e:Rm (st++tmp).a 2)
  (h:Go ((zo sc st b x).g λi=>rd st i) (λv=>A2 code ⟨st++tmp++[v],b,p+c.a,o,f⟩ res) res):A2 code ⟨st++tmp,b,p,o,f⟩ res:=by
 unfold y8 at d;unfold zo at h;revert d h;rcases eR x sc 0 with _|⟨l,a|a|⟨a,z⟩|⟨a,z⟩⟩<;>intro d h<;>cases d
 ·obtain ⟨r,m,h⟩:=uc h.pW;refine bf (yQ h) λv j h=>?_;exact .a (.c g.1 e.lt (kg m) (hZ j)) h
 ·refine bf (uc h.pW.pW) λr m h=>?_;refine bf (yQ h.pW) λv j h=>?_;refine bf (HB h) λk n h=>?_;subst n;refine bf (yQ h) λw q h=>?_;exact .a (.c g.1 e.lt (kg m) (hZ j)) (.a (.i g.2.1 e.lt (hZ q)) h)
theorem NN (d:kd sc x=.e c)(n:s7 code j c)(m:(st++tmp).a<900000)
  (h:Go (zo sc st b x) (λi=>A2 code ⟨st++tmp++[(i:aU)],b,j+c.a,o,f⟩ res) res):A2 code ⟨st++tmp,b,j,o,f⟩ res:=by
 unfold kd at d;unfold zo at h;revert d h;rcases eR x sc 0 with _|⟨l,a|a|⟨a,z⟩|⟨a,z⟩⟩<;>intro d h<;>cases d
 ·refine bf (uc h) λq e h=>?_;exact .a (.h n.1 m (kg e)) h
 ·refine bf (uc h.pW) λq e h=>?_;refine bf (yQ h.pW) λv p h=>?_;refine bf (HB h) λk g h=>?_;subst g;exact .a (.c n.1 m (kg e) (hZ p)) h
def abo (code:ao In)(sc:ao cG)(e:Ex):Prop:=∀{b:aB} {o:ao aU} {f:aU} {res:aJ (ao aU)} {d a:ao aU} {c:ao In} {g:aB},kc sc e=.e c->s7 code g c->Rm (d++a).a e.j->
 Go (kY sc d b e) (λv=>A2 code ⟨d++a++[v],b,g+c.a,o,f⟩ res) res->A2 code ⟨d++a,b,g,o,f⟩ res
theorem Yl {c d:ao In}(h:d.a=k):p+(c++d).a=p+c.a+k:=by refine aA ai ?_;rw [h,bW]
theorem Tp (s:abo code sc e)(j:NA sc x (kc sc e)=.e c)(r:s7 code n c)(p:Rm (st++tmp).a (e.j+3))
  (h:Go (HR sc st b x (kY sc st b e)) (λi=>A2 code ⟨st++tmp++[(i:aU)],b,n+c.a,o,f⟩ res) res):A2 code ⟨st++tmp,b,n,o,f⟩ res:=by
 unfold NA at j;unfold HR at h;revert j h;rcases eR x sc 0 with _|⟨l,a|a|⟨a,z⟩|⟨a,z⟩⟩<;>intro j h
 case some.e=>
  refine bf (R.k j) λd u q=>?_;injection q with q;subst q;obtain ⟨w,k⟩:=kF r;refine s u w p.l (h.pW.pV λv h=>?_);revert h;cases g:bg (0<=v/\v<(z:aU)) with
  |true=>
   intro h;have g:=aX g;refine bf (uc (Go.pW h)) λm t h=>?_;have h:A2 code ⟨st++tmp++[((v.p+(m+a):aB):aU)],b,n+(d++[In.q z,In.r l a,In.d hK]).a,o,f⟩ res:=h;have y:((v.p+(m+a):aB):aU)=v+((m+a:aB):aU):=by rw [zH,iI g.1]
   rw [y] at h;refine .a (.r k.1 g.1 g.2) (.a (.h (b':=m) k.2.1 ((Rm.NR (a:=0) (p.r (b:=3).l (a:=1) (b:=2))).lt) ?_) ?_)
   ·rw [ag];exact kg t
   exact .a (.d k.2.2.1 af p.lt af) (h.c (Yl af))
  |false=>
   intro h;subst h;exact .d (.a k.1 (cV g))
 all_goals injection j
theorem Ly (sc:ao cG):∀e:Ex,e.i=ax->abo code sc e:=by
 intro e
 induction e with
 |h n=>intro k b o f res s l c t j m g h;injection j with j;subst j;exact .a (.j m.1 g.lt) h
 |g x=>intro k b o f res s l c t j m g h;exact Qu j m g h
 |k x e z=>
  intro k b o f res s l c t j m g h;obtain ⟨d,q,a⟩:=R.k j;injection a with a;subst a;obtain ⟨r,B⟩:=kF m;refine Tp (z k) q r (Rm.l (b:=1) g) (h.pW.pV λi h=>?_);refine bf (yQ h) λv a h=>?_;exact .a (.i B.1 g.lt (hZ a)) (h.c (Yl af))
 |m e z=>
  intro k b o f res s l c t j m g h;obtain ⟨d,q,a⟩:=R.k j;injection a with a;subst a;obtain ⟨r,B⟩:=kF m;exact z k q r (Rm.l (b:=1) g) (h.pW.pV λv h=>.a (.z B.1) (A2.c h (Yl af)))
 |l e z=>
  intro k b o f res s l c t j m g h;obtain ⟨d,q,a⟩:=R.k j;injection a with a;subst a;obtain ⟨r,B⟩:=kF m;exact z k q r (Rm.l (b:=1) g) (h.pW.pV λv h=>.a (.A B.1) (A2.c h (Yl af)))
 |c I x y D C=>
  intro k b o f res s l c t j m g h;refine bf (R.k j) λd q a=>?_;refine bf (R.k a) λL J F=>?_;injection F with F;subst F;have k:=ae.g k;have p:=ae.g k.1;obtain ⟨r,H⟩:=kF m;have A:=kF r;refine D p.2 q A.1 (Rm.l g) (h.pW.pV λv h=>?_);rw [ag];refine C k.2 J A.2 (by rw [← ag];exact Rm.NR (Rm.r g)) (h.pW.pV λw h=>?_);rw [← ag];refine A2.c ?_ ((Yl af).h).h;revert h;cases G:ua I v w with
  |e u=>exact λh=>.a (.d H.1 p.1 g.lt G) (A2.c h (Yl af))
  |i=>intro h;have h:res=aq:=h;subst h;exact .d (.d H.1 p.1 G)
  |j=>exact λh=>h.e
end
noncomputable def Fg (code:ao In):aB->ao In->aB->Prop
 |p,[],q=>p=q
 |p,i::r,q=>code[p]?=ah i/\Fg code (p+1) r q
theorem Fg.app:∀{c d:ao In} {p q:aB},Fg code p (c++d) q->∃m,Fg code p c m/\Fg code m d q:=by
 intro b
 induction b with
 |nil=>
  intro d p q h;exact bQ p af h
 |cons i c a=>
  intro d p q h;exact (a h.2).e λm g=>bQ m ⟨h.1,g.1⟩ g.2
theorem Fg.fr:∀{c:ao In} {p q:aB},Fg code p c q->s7 code p c/\q=p+c.a
 |[],p,q,h=>⟨kN,Ox h⟩
 |i::c,p,q,h=>⟨⟨h.1,h.2.fr.1⟩,h.2.fr.2.b (show p+1+c.a=p+(c.a+1) from (bo p c.a 1).h)⟩
theorem s7.fg:∀{c:ao In} {p:aB},s7 code p c->Fg code p c (p+c.a):=by
 intro b
 induction b with
 |nil=>
  intro p h;exact af
 |cons i c a=>
  intro p h;exact ⟨h.1,dw (show p+1+c.a=p+(c.a+1) from (bo p c.a 1).h) (a h.2)⟩
theorem Fg.ap {p q:aB}(h:Fg code p (c++d) q):Fg code p c (p+c.a)/\Fg code (p+c.a) d q:=by
 refine gl ?_;intro e;refine bf h.app λm a b=>?_;obtain ⟨_,rfl⟩:=a.fr;exact ⟨a,b⟩
theorem Fg.o {c:ao In}(h:Fg code p ([i]++c) q):code[p]?=ah i/\Fg code (p+1) c q:=h
theorem Fg.o2 {c:ao In}(h:Fg code p ([i,j]++c) q):code[p]?=ah i/\code[p+1]?=ah j/\Fg code (p+1+1) c q:=h
theorem Fg.r2 {p q:aB}(h:Fg code p (a++b++c) q):Fg code p (a++(b++c)) q:=dw (ag a b c) h
theorem Fg.r3 {p q:aB}(h:Fg code p (a++b++c++d) q):Fg code p (a++(b++(c++d))) q:=h.r2.r2
theorem Fg.r4 {p q:aB}(h:Fg code p (a++b++c++d++e) q):Fg code p (a++(b++(c++(d++e)))) q:=h.r2.r3
theorem Fg.r6 {p q:aB}(h:Fg code p (a++b++c++d++e++f++g) q):Fg code p (a++(b++(c++(d++(e++(f++g)))))) q:=h.r2.r2.r4
noncomputable def HY (t f:aB)(res:aJ (ao aU)):aJ (ao aU):=match bM t f with
 |true=>res
 |false=>aq
theorem y6 (t f:aB):HY t f aq=aq:=by unfold HY;cases bM t f<;>rfl
def U (K:aB)(code:ao In)(st:ao aU)(b pc:aB)(o:ao aU)(t:aB)(res:aJ (ao aU)):Prop:=∀f:aB,f<K->A2 code ⟨st,b,pc,o,f⟩ (HY t f res)
def At (code:ao In)(sc:ao cG)(f p:aB)(s:St)(p':aB):Prop:=∃c,iw sc f p s=.e c/\Fg code p c p'
theorem Go.u {k b:d->Prop}(h:Go m k res)(c:∀a,k a->b a):Go m b (HY t f res):=by
 cases m with
 |e a=>exact c a h
 |i=>have h:res=aq:=h;subst h;exact y6 t f
 |j=>exact h
def Rs (n k:aB):Prop:=bM (n+(k+10)) 800000=ax
theorem Rs.of (h:Rs n k)(a:m<=k+10):Rm n m:=ab (ar a _) (aa h)
section
variable {K:aB}{code:ao In}{b:aB}{o:ao aU}{t:aB}{res:aJ (ao aU)}{sc:ao cG}{st:ao aU}{f p p' pc:aB}
theorem U.go (m:∀f:aU,A0 code ⟨st,b,pc,o,f⟩ ⟨st',b,a,o,f⟩)(h:U K code st' b a o t res):U K code st b pc o t res:=λf c=>.a (m f) (h f c)
theorem U.val {c:ao In}(d:e.i=ax)(i:kc sc e=.e c)(a:Fg code pc c m)(g:Rm (st++tmp).a e.j)
  (h:Go (kY sc st b e) (λv=>U K code (st++tmp++[v]) b m o t res) res):U K code (st++tmp) b pc o t res:=
 λf j=>Ly sc e d i a.fr.1 g (h.u λv h=>dw a.fr.2 (h f j))
theorem U.Tq {c:ao In}(e:kd sc x=.e c)(a:Fg code pc c m)(d:Rm (st++tmp).a 0)
  (h:Go (zo sc st b x) (λi=>U K code (st++tmp++[(i:aU)]) b m o t res) res):U K code (st++tmp) b pc o t res:=
 λf g=>NN e a.fr.1 d.lt (h.u λv h=>dw a.fr.2 (h f g))
theorem U.Tr {tmp:ao aU}(d:e.i=ax)(j:NA sc x (kc sc e)=.e c)(a:Fg code pc c m)(g:Rm (st++tmp).a (e.j+3))
  (h:Go (HR sc st b x (kY sc st b e)) (λi=>U K code (st++tmp++[(i:aU)]) b m o t res) res):U K code (st++tmp) b pc o t res:=
 λf k=>Tp (Ly sc e d) j a.fr.1 g (h.u λv h=>dw a.fr.2 (h f k))
theorem pM (st:ao aU):st++[]=st:=bD st
theorem U.RF {m:aB}(a:e.i=ax)(g:kc sc e=.e c)(f:Fg code pc c m)(d:Rm st.a e.j)
  (h:Go (kY sc st b e) (λv=>U K code (st++[v]) b m o t res) res):U K code st b pc o t res:=by
 have:=U.val (tmp:=[]) (K:=K) (st:=st) (o:=o) (t:=t) (res:=res) (b:=b) a g f;rw [pM] at this;exact this d h
theorem U.NQ {m:aB}(e:kd sc x=.e c)(d:Fg code pc c m)(a:Rm st.a 0)
  (h:Go (zo sc st b x) (λi=>U K code (st++[(i:aU)]) b m o t res) res):U K code st b pc o t res:=by
 have:=U.Tq (tmp:=[]) (K:=K) (st:=st) (o:=o) (t:=t) (res:=res) (b:=b) e d;rw [pM] at this;exact this a h
theorem U.XF {c:ao In}(a:e.i=ax)(g:NA sc x (kc sc e)=.e c)(f:Fg code pc c m)(d:Rm st.a (e.j+3))
  (h:Go (HR sc st b x (kY sc st b e)) (λi=>U K code (st++[(i:aU)]) b m o t res) res):U K code st b pc o t res:=by
 have:=U.Tr (tmp:=[]) (K:=K) (st:=st) (o:=o) (t:=t) (res:=res) (b:=b) a g f;rw [pM] at this;exact this d h
theorem U.XD (c:code[pc]?=ah .f)(h:U (K-1) code st b (pc+1) o t res):U K code st b pc o (t+1) res:=λf a=>match f,a with
 |0,_=>.d (.g c (by decide))
 |k+1,a=>.a (.E c (Int.le_add_of_nonneg_left (bq k))) (aA (cT (k:aU) 1) (h k (Nat.lt_sub_of_add_lt a)))
theorem U.jpc (c:code[pc]?=ah (.c q))(g:v=0->U K code st b q o t res)(e:v≠0->U K code st b (pc+1) o t res):U K code (st++[v]) b pc o t res:=
 λf d=>(Decidable.em (v=0)).e (λa=>.a (.u c a) (g a f d)) λa=>.a (.w c a) (e a f d)
theorem U.XE (h:U K code st b pc o t aq)(a:aB):U K code st b pc o a aq:=λf c=>by
 have:=h f c;rw [y6] at this ⊢;exact this
theorem L5 {d c:ao In}(h:e.i=ax)(l:kc sc e=.e d)(k:Fg code pc (d++[In.k]) m)(j:Rs st.a e.j)
  (g:Go (kY sc st b e) (λv=>i<st.a/\U K code (st.w i v) b m o t res) res):U K code (st++[(i:aU)]) b pc o t res:=by
 refine l8 k.app λm p n a=>?_;subst a;exact U.val h l p (Rm.NR (j.of (ar (aa af) _))) (g.pV λv g=>.go (λf=>.k n g.1) g.2)
theorem At.Tw (h:At code sc f p (.U x e) p')(j:e.i=ax)(d:Rs st.a e.j)
  (g:Go (zo sc st b x) (λi=>Go (kY sc st b e) (λv=>i<st.a/\U K code (st.w i v) b p' o t res) res) res):U K code st b p o t res:=by
 refine gl ?_;intro w;refine bf h λc l k=>?_;refine bf (R.k l) λy q n=>?_;refine bf (R.k n) λu m a=>?_;injection a with a;subst a;obtain ⟨s,r⟩:=k.r2.ap;exact U.NQ q s (d.of (bG _)) (g.pV λi g=>L5 (c:=u) j m r d g)
theorem At.abB (h:At code sc f p (.iR x i e) p')(a:i.i=ax)(k:e.i=ax)(d:Rs st.a i.j)(l:Rs st.a e.j)
  (g:Go (HR sc st b x (kY sc st b i)) (λi=>Go (kY sc st b e) (λv=>i<st.a/\U K code (st.w i v) b p' o t res) res) res):U K code st b p o t res:=by
 refine gl ?_;intro z;refine bf h λc n m=>?_;refine bf (R.k n) λA s r=>?_;refine bf (R.k r) λy q j=>?_;injection j with j;subst j;obtain ⟨w,u⟩:=m.r2.ap;exact U.XF a s w (d.of (ar (aa af) _)) (g.pV λi g=>L5 (c:=y) k q u l g)
theorem At.A4 (h:At code sc f p (.R e) p')(j:e.i=ax)(l:Rs st.a e.j)(k:o.a<900000)
  (g:Go (kY sc st b e) (λv=>U K code st b p' (o++[v]) t res) res):U K code st b p o t res:=by
 refine gl ?_;intro u;refine bf h λc n a=>?_;refine bf (R.k n) λw q d=>?_;injection d with d;subst d;refine l8 a.app λm s r i=>?_;subst i;exact U.RF j q s (l.of (ak _ _)) (g.pV λv g f a=>.a (.F r k) (g f a))
theorem At.abC (h:At code sc f p .iS p'):p'=p:=by
 refine bf h λc a b=>?_;injection a with a;subst a;exact Ox b
theorem At.beg (h:At code sc f p (.vM s) p'):At code sc f p s p':=h
theorem At.XU (h:At code sc f p (.nh s) p'):At code sc f p s p':=h
theorem At.GI (h:At code sc f p (.E s r) p'):∃q,At code sc f p s q/\At code sc f q r p':=by
 refine gl ?_;intro l;refine bf h λc d b=>?_;refine bf (R.k d) λk i g=>?_;refine bf (R.k g) λj e a=>?_;injection a with a;subst a;exact bQ _ (bQ k i b.ap.1) (bQ j e b.ap.2)
def JF (code:ao In)(sc:ao cG)(c:Ex)(p d a k:aB):Prop:=∀{K:aB} {st:ao aU} {b:aB} {o:ao aU} {t:aB} {res:aJ (ao aU)},Rs st.a c.j->Go (kY sc st b c) (λv=>(v=0->U (K-k) code st b d o t res)/\(v≠0->U (K-k) code st b a o t res)) res->U K code st b p o (t+k) res
def Way (code:ao In)(p q:aB):Prop:=∀{K:aB} {st:ao aU} {b:aB} {o:ao aU} {t:aB} {res:aJ (ao aU)},U K code st b q o t res->U K code st b p o t res
theorem way (h:code[p]?=ah (.g q)):Way code p q:=λg=>.go (λf=>.g h) g
theorem aaX (a:c.i=ax)(f:kc sc c=.e v)(e:Fg code p v m)(d:code[m]?=ah (.c q)):JF code sc c p q (m+1) 0:=λb g=>
 U.RF a f e (b.of (ak _ _)) (g.pV λv g=>U.jpc d g.1 g.2)
theorem S9 (a:c.i=ax)(h:kc sc c=.e v)(f:Fg code p v m)(b:code[m]?=ah .f)(e:code[m+1]?=ah (.c q)):JF code sc c p q (m+1+1) 1:=λd g=>
 U.RF a h f (d.of (ak _ _)) (g.pV λv g=>U.XD b (U.jpc e g.1 g.2))
theorem At.if1 (h:At code sc f p (.uF c a) p')(g:c.i=ax):∃q,At code sc f q a p'/\JF code sc c p p' q 0:=by
 refine gl ?_;intro o;refine bf h λc i d=>?_;refine bf (R.k i) λr l k=>?_;refine bf (R.k k) λn j b=>?_;injection b with b;subst b;obtain ⟨m,e⟩:=d.r2.ap.2.o;exact bQ _ (bQ n j e) (aaX g l d.r2.ap.1 (e.fr.2▸m))
theorem At.if2 (h:At code sc f p (.uE c a d) p')(i:c.i=ax):∃q g r,At code sc f q a g/\At code sc f r d p'/\Way code g p'/\JF code sc c p r q 0:=by
 refine gl ?_;intro y;refine bf h λc k j=>?_;refine bf (R.k k) λz s o=>?_;refine bf (R.k o) λx n m=>?_;refine bf (R.k m) λw l e=>?_;injection e with e;subst e;obtain ⟨v,b⟩:=j.r4.ap;obtain ⟨t,b⟩:=b.o;obtain ⟨u,b⟩:=b.ap;exact IM _ _ _ (bQ x n u) (bQ w l b.o.2) (way (b.o.2.fr.2▸b.o.1)) (aaX i s v t)
theorem At.whl (h:At code sc f p (.wt c a) p')(g:c.i=ax):∃q e,At code sc f q a e/\Way code e p/\JF code sc c p p' q 1:=by
 refine gl ?_;intro t;refine bf h λc j i=>?_;refine bf (R.k j) λu m l=>?_;refine bf (R.k l) λs k d=>?_;injection d with d;subst d;obtain ⟨r,b⟩:=i.r3.ap;refine vf b.o2 λn o b=>?_;exact jf _ _ (bQ s k b.ap.1) (way b.ap.2.1) (S9 g m r n ((b.ap.2.2:_=p')▸o))
theorem At.rep (h:At code sc f p (.wu a c) p')(e:c.i=ax):∃q,At code sc f p a q/\JF code sc c q p p' 1:=by
 refine gl ?_;intro m;refine bf h λc g b=>?_;refine bf (R.k g) λl k j=>?_;refine bf (R.k j) λn i d=>?_;injection d with d;subst d;exact bQ _ (bQ l k b.r2.ap.1) (dw (b.r2.ap.2.ap.2.2.2:_=p') (S9 e i b.r2.ap.2.ap.1 b.r2.ap.2.ap.2.1 b.r2.ap.2.ap.2.2.1))
theorem U.Gy:U 0 code st b pc o t res:=λf a=>bZ a (fL f)
end
noncomputable def zZ:bC->aU->aU->bC
 |true,v,w=>bg (v<=w)
 |false,v,w=>bg (v ≥ w)
noncomputable def gN:bC->aU->aU
 |true,v=>v+1
 |false,v=>v-1
noncomputable def Q7 (sc:ao cG)(st:ao aU)(b:aB):Ex->R aB
 |.g x=>zo sc st b x
 |.k x e=>HR sc st b x (kY sc st b e)
 |_=>.j
noncomputable def ot (sc:ao cG)(st:ao aU)(b:aB):ao bC->ao Ex->R (ao aU)
 |v::a,e::c=>(match v with
  |true=>(Q7 sc st b e).g λi=>.e (i:aU)
  |false=>kY sc st b e).g λx=>(ot sc st b a c).g λr=>.e (x::r)
 |[],[]=>.e []
 |_,_=>.j
theorem Ex.r (e:Ex):1<=e.j:=by cases e<;>exact aF 1 _
section
variable {K:aB}{code:ao In}{b:aB}{o:ao aU}{t:aB}{res:aJ (ao aU)}{sc:ao cG}{st:ao aU}{f p p' pc:aB}
theorem U.adC (a:code[pc]?=ah .e):U K code st 0 pc o 0 (ah o):=λf z=>.d (.c a)
theorem Hc (st:ao aU)(v w:aU):st++[v]++[w]=st++[v,w]:=ag st [v] [w]
theorem at0 (st:ao aU)(v w:aU):(st++[v,w])[st.a]?=ah v:=by refine aA (dH (au _)) ?_;rw [k9];rfl
theorem at1 (st:ao aU)(v w:aU):(st++[v,w])[st.a+1]?=ah w:=by refine aA (dH (ak _ 1)) ?_;rw [gG];rfl
theorem ac2 (st:ao aU)(v w x:aU):(st++[v,w]).w st.a x=st++[x,w]:=by refine aA (lJ _ _ (au _)) ?_;rw [k9];rfl
theorem aaF (st:ao aU)(v w:aU):(st++[v,w]).a=st.a+2:=ai
theorem Rs.q (h:Rs (n+2) k)(a:m<=12):n+m<900000:=aQ (ab (ar a _) (ab (ab (aV (bW n 2 10).h) (ar (aF _ _) _)) (aa h))) (aa af)
theorem At.for (h:At code sc f p (.ti x a c up s) p')(D:a.i=ax)(C:c.i=ax):∃r q L,At code sc (f+2) q s L/\
  (∀{K:aB} {st:ao aU} {b:aB} {o:ao aU} {t:aB} {res:aJ (ao aU)},Rs st.a a.j->Rs st.a c.j->Go (kY sc st b a) (λv=>Go (kY sc st b c) (λw=>U K code (st++[v,w]) b r o t res) res) res->U K code st b p o t res)/\
  (∀{K:aB} {st:ao aU} {b:aB} {o:ao aU} {t:aB} {res:aJ (ao aU)} {v w:aU},st.a=b+f->Rs (st.a+2) 0->
   (zZ up v w=ax->Go (zo sc (st++[v,w]) b x) (λi=>i<st.a+2/\U (K-1) code ((st++[v,w]).w i v) b q o t res) res)->(zZ up v w=aw->U (K-1) code st b p' o t res)->U K code (st++[v,w]) b r o (t+1) res)/\
  (∀{K:aB} {st:ao aU} {b:aB} {o:ao aU} {t:aB} {res:aJ (ao aU)} {v w:aU},st.a=b+f->Rs (st.a+2) 0->U K code (st++[gN up v,w]) b r o t res->U K code (st++[v,w]) b L o t res):=by
 refine gl ?_;intro g9;refine bf h λcc N M=>?_;refine bf (R.k N) λw h1 T=>?_;refine bf (R.k T) λu h3 P=>?_;refine bf (R.k P) λv h5 O=>?_;refine bf (R.k O) λz h7 J=>?_;injection J with J;subst J;obtain ⟨fu,W⟩:=M.r6.ap;refine acI W.ap λfv t1 t2 Z Y X B=>?_;have B:Fg code (p+u.a+v.a+5) (w++_) p':=B;obtain ⟨fw,B⟩:=B.ap;refine vf B.o2 λs1 s2 V=>?_;obtain ⟨fz,e1,e2,e3,e4,e5,e6,e7,fe⟩:=V.ap;clear M N T P O W B V;subst fe;refine IM (p+u.a+v.a) _ _ (bQ z h7 fz) (λI H g=>?_) (fun {K st b o t res d e} A l g1 g2=>?_) (fun {K st b o t res d e} A l g=>?_)
 ·refine U.RF D h3 fu (I.of (ak _ _)) (g.pV λv g=>?_);refine U.val C h5 fv (Rm.NR (H.of (ar (aa af) _))) (g.pV λw g=>?_);rw [Hc];exact g
 ·have j:=aaF st d e;have k:(st++[d,e])[b+f]?=ah d:=dw A (at0 st d e);have F:(st++[d,e])[b+(f+1)]?=ah e:=show (st++[d,e])[b+f+1]?=ah e from dw A (at1 st d e);refine U.XD t1 (.go (λf=>.c t2 (aA j (l.q (by decide))) af k) (.go (λf=>.c Z ?_ af (hZ F)) (.go (st':=st++[d,e]++[JB (zZ up d e)]) (λf=>.d Y ?_ (aA j (l.q (by decide))) ?_) (U.jpc X (λG=>?_) λG=>?_))))
  ·exact ai▸j▸l.q (m:=3) (by decide)
  ·cases up<;>rfl
  ·cases up<;>rfl
  ·have y:zZ up d e=aw:=by
    revert G;cases zZ up d e with
    |false=>exact λ_=>af
    |true=>intro h;cases h
   have g:=g2 y;rw [← Hc];have n:=U.jpc (v:=d) e7 (λ_=>g) λ_=>g;exact U.jpc e6 (λ_=>n) λ_=>n
  ·have y:zZ up d e=ax:=by
    revert G;cases zZ up d e with
    |true=>exact λ_=>af
    |false=>exact λh=>bZ af h
   refine U.NQ h1 fw (lg (aQ (aA j (ab (ak _ _) (aa l))) (aa af))) ((g1 y).pV λi g=>?_);refine .go (λf=>.c s1 ?_ af (hZ k)) (.go (λf=>.k s2 (aA j g.1)) g.2);exact ai▸j▸l.q (m:=3) (by decide)
 ·have j:=aaF st d e;have k:(st++[d,e])[b+f]?=ah d:=dw A (at0 st d e);refine .go (λf=>.c e1 (aA j (l.q (by decide))) af k) (.go (λf=>.j e2 ?_) (.go (λf=>.d (v:=gN up d) e3 ?_ (aA j (l.q (by decide))) ?_) (.go (λ_=>.C e4 (a:=f) af ?_) (.go (λf=>.g e5) ?_))))
  ·exact ai▸j▸l.q (m:=3) (by decide)
  ·cases up<;>rfl
  ·cases up<;>rfl
  ·exact j▸A▸cX (aa af)
  ·refine dw A ?_;rw [ac2];exact g
theorem y0:∀(vs:ao bC) (a:ao Ex) (as:ao aU),ot sc st b vs a=.e as->as.a=a.a
 |v::vs,e::a,as,h=>by
  refine bf (R.k h) λx g f=>?_;refine bf (R.k f) λr d c=>?_;injection c with c;subst c;exact aW ix (y0 vs a r d)
 |[],[],as,h=>by injection h with h;subst h;rfl
 |[],_::_,as,h=>by injection h
 |_::_,[],as,h=>by injection h
theorem U.abp:∀(vs:ao bC) (k:ao Ex) (tmp:ao aU) (c:ao In) (pc m:aB),(∀e∈k,e.i=ax)->qe sc vs k=.e c->Fg code pc c m->Rm (st++tmp).a (SE k)->
  Go (ot sc st b vs k) (λas=>U K code (st++tmp++as) b m o t res) res->U K code (st++tmp) b pc o t res
 |v::vs,e::k,tmp,c,pc,m,p,f,q,h,g=>by
  refine gl ?_;intro w;refine bf (R.k f) λF j B=>?_;refine bf (R.k B) λD A s=>?_;injection s with s;subst s;refine bf q.app λy u C=>?_;have d:∀x:aU,Go ((ot sc st b vs k).g λr=>.e (x::r)) (λas=>U K code (st++tmp++as) b m o t res) res->U K code (st++tmp++[x]) b y o t res:=by
   intro x g;rw [ag];refine U.abp vs k (tmp++[x]) D _ m (λe z=>p e (de _ z)) A C ?_ (g.pW.pV λr g=>?_)
   ·rw [← ag];exact Rm.NR (ab (ar (ab (ar e.r _) (aV (cv _ _))) _) h)
   ·have g:U K code (st++tmp++([x]++r)) b m o t res:=g;rw [← ag,ag st] at g;exact g
  have l:=p e (List.Mem.head _);cases v with
  |false=>exact U.val l j u h.l (g.pW.pV d)
  |true=>
   refine gl ?_;intro w;cases e with
   |g x=>exact U.Tq j u (ab (ak _ _) h) (g.pW.pW.pV λi=>d _)
   |k x e=>exact U.Tr (e:=e) l j u (Rm.l (a:=e.j+3) (b:=1) h.l) (g.pW.pW.pV λi=>d _)
   |h n=>injection j
   |m e=>injection j
   |l e=>injection j
   |c o a b=>injection j
 |[],[],tmp,c,pc,m,p,f,q,h,g=>by
  refine gl ?_;intro w;injection f with f;subst f;subst q;have g:U K code (st++tmp++[]) b pc o t res:=g;rw [pM] at g;exact g
 |[],_::_,tmp,c,pc,m,p,f,q,h,g=>by injection f
 |_::_,[],tmp,c,pc,m,p,f,q,h,g=>by injection f
theorem At.EB (h:At code sc f p (.ip x d) p')(v:eR x sc 0=ah (l,.c a q))(w:∀e∈d,e.i=ax)(u:Rs st.a (SE d))
  (g:Go (ot sc st b (q.d (·.2)) d) (λas=>∃i,eM st l b=ah i/\U (K-1) code (st++[(i:aU),(b:aU),(p':aU)]++as) st.a a o t res) res):U K code st b p o (t+1) res:=by
 refine gl ?_;intro H;refine bf h λc j k=>?_;have j:(match eR x sc 0 with
  |some (l,.c a q)=>(match aM q.a d.a with
   |true=>(qe sc (q.d (·.2)) d).g λc=>.e (c++[.f,.m l a d.a])
   |false=>.i)
  |_=>.i:R (ao In))=.e c:=j
 rw [v] at j;revert j;show (match aM q.a d.a with
   |true=>(qe sc (q.d (·.2)) d).g λc=>.e (c++[.f,.m l a d.a])
   |false=>.i:R (ao In))=.e c->_
 cases aM q.a d.a with
 |false=>intro j;injection j
 |true=>
  intro j;refine bf (R.k j) λG z n=>?_;injection n with n;subst n;refine U7 k.app λm F D C r=>?_;subst r;have:=U.abp (K:=K) (code:=code) (st:=st) (b:=b) (o:=o) (t:=t+1) (res:=res) (q.d (·.2)) d [] G p m w z F;rw [pM] at this;refine this (u.of (ak _ _)) ?_;revert g;cases y:ot sc st b (q.d (·.2)) d with
  |j=>exact id
  |i=>exact id
  |e as=>
   rintro ⟨i,B,A⟩;have s:=y0 _ _ _ y;refine U.XD D λf k=>.a (.q C s ?_ (kg B)) (A f k);exact ai▸s▸ab (ar (ab (He d) (ak _ _)) _) (ab (aa u) (aa af))
theorem uz (h:kG sc p q (.e vs a r)=.e c)(k:s7 code p c) :
  ∃w m u s,tU (j8 [] 3 q).1 (j8 [] 3 q).2 vs=.e w/\oz sc w.1 (p+1) a=.e m/\s7 code (p+1) m.1/\At code (m.2::sc) w.2 u r s/\code[s]?=ah .e/\
   ∀{K:aB} {st:ao aU} {b:aB} {o:ao aU} {t:aB} {res:aJ (ao aU)},st.a+(w.2-(j8 [] 3 q).2)<=900000->U K code (st++cZ (w.2-(j8 [] 3 q).2) 0) b u o t res->U K code st b p o t res:=by
 have h:(match qb [] (lr q++lr vs++a.i) with
  |false=>.i
  |true=>(tU (j8 [] 3 q).1 (j8 [] 3 q).2 vs).g λw=>
   (oz sc w.1 (p+1) a).g λc=>
   (iw (c.2::sc) w.2 (p+1+c.1.a+(oS (w.2-(j8 [] 3 q).2)).a) r).g λd=>R.e ([In.g (p+1+c.1.a)]++c.1++oS (w.2-(j8 [] 3 q).2)++d++[.e]):R (ao In))=.e c:=h
 revert h;cases qb [] (lr q++lr vs++a.i) with
 |false=>intro h;injection h
 |true=>
  intro h;refine gl ?_;intro C;refine bf (R.k h) λw B A=>?_;refine bf (R.k A) λd z y=>?_;refine bf (R.k y) λe x l=>?_;injection l with l;subst l;obtain ⟨j,v⟩:=k.fg.r4.o.2.ap.2.ap;refine ⟨w,d,_,_,B,z,k.fg.r4.o.2.ap.1.fr.1,bQ e x v.ap.1,v.ap.2.1,fun {K st b o t res} i g=>.go (λf=>.g k.fg.r4.o.1) ?_⟩;revert g j i;generalize w.2-(j8 [] 3 q).2=n;cases n with
  |zero=>intro j i g;rw [show cZ 0 (0:aU)=[] from af,pM] at g;exact g
  |succ n=>exact λj i g=>.go (λf=>.t j.1 i) g
end
noncomputable def Wi (sc:ao cG)(x:Tx):bC:=match eR x sc 0 with
 |some (_,.b _)=>ax
 |some (_,.f _)=>ax
 |_=>aw
noncomputable def okI (sc:ao cG)(x:Tx):bC:=match eR x sc 0 with
 |some (_,.e _ _)=>ax
 |_=>aw
noncomputable def AF (sc:ao cG):Ex->bC
 |.h _=>ax
 |.g x=>Wi sc x
 |.k x e=>okI sc x&&AF sc e
 |.m e=>AF sc e
 |.l e=>AF sc e
 |.c _ a b=>AF sc a&&AF sc b
noncomputable def okA (sc:ao cG):Ex->bC
 |.g x=>Wi sc x
 |.k x e=>okI sc x&&AF sc e
 |_=>aw
noncomputable def yU (sc:ao cG):ao bC->ao Ex->bC
 |v::a,e::b=>(match v with
  |true=>okA sc e
  |false=>AF sc e)&&yU sc a b
 |[],[]=>ax
 |_,_=>aw
noncomputable def AG (sc:ao cG):St->bC
 |.iS=>ax
 |.U x e=>Wi sc x&&AF sc e
 |.iR x i e=>okI sc x&&AF sc i&&AF sc e
 |.ip x d=>(match eR x sc 0 with
  |some (_,.c _ q)=>aM q.a d.a&&yU sc (q.d (·.2)) d
  |_=>aw)
 |.uF c a=>AF sc c&&AG sc a
 |.uE c a b=>AF sc c&&(AG sc a&&AG sc b)
 |.wt c a=>AF sc c&&AG sc a
 |.wu s c=>AG sc s&&AF sc c
 |.ti x a b _ s=>Wi sc x&&(AF sc a&&(AF sc b&&AG sc s))
 |.vM s=>AG sc s
 |.R e=>AF sc e
 |.nh s=>AG sc s
 |.E s r=>AG sc s&&AG sc r
def rk (b:bC)(m:R c):Prop:=match b with
 |true=>∃a,m=.e a
 |false=>m=.i
theorem rk.uG {f:e->R d}(h:rk a m)(c:∀x,rk b (f x)):rk (a&&b) (m.g f):=by
 cases a with
 |false=>have h:m=.i:=h;subst h;exact (af:R.i=R.i)
 |true=>obtain ⟨x,rfl⟩:=h;exact c x
theorem rk.Cv {f:c->b}(h:rk a m):rk a (m.g λx=>.e (f x)):=by
 cases a with
 |false=>have h:m=.i:=h;subst h;exact (af:R.i=R.i)
 |true=>obtain ⟨x,rfl⟩:=h;exact ⟨f x,af⟩
theorem BO (sc:ao cG)(x:Tx):rk (Wi sc x) (y8 sc x)/\rk (Wi sc x) (kd sc x):=by
 unfold Wi y8 kd;rcases eR x sc 0 with _|⟨l,a|a|⟨a,z⟩|⟨a,q⟩⟩<;>first|exact ⟨af,af⟩|exact ⟨⟨_,af⟩,⟨_,af⟩⟩
theorem BP {b:bC}(h:rk b i):rk (okI sc x&&b) (NA sc x i):=by
 unfold okI NA;rcases eR x sc 0 with _|⟨l,a|a|⟨a,z⟩|⟨a,q⟩⟩<;>first|exact (af:R.i=R.i)|exact h.Cv
theorem md (sc:ao cG):∀e:Ex,rk (AF sc e) (kc sc e):=by
 intro e
 induction e with
 |h n=>exact ⟨_,af⟩
 |g x=>exact (BO sc x).1
 |k x e d=>exact (BP d).Cv
 |m e d=>exact d.Cv
 |l e d=>exact d.Cv
 |c o a b g f=>exact g.uG λc=>f.Cv
theorem V6 (sc:ao cG):∀e:Ex,rk (okA sc e) (NB sc e):=by
 intro e;cases e with
 |g x=>exact (BO sc x).2
 |k x e=>exact BP (md sc e)
 |_=>exact (af:R.i=R.i)
theorem vq (sc:ao cG):∀(vs:ao bC) (a:ao Ex),rk (yU sc vs a) (qe sc vs a)
 |true::vs,e::a=>(V6 sc e).uG λc=>(vq sc vs a).Cv
 |false::vs,e::a=>(md sc e).uG λc=>(vq sc vs a).Cv
 |[],[]=>⟨_,af⟩
 |[],_::_=>(af:R.i=R.i)
 |_::_,[]=>(af:R.i=R.i)
theorem Jk (sc:ao cG)(x:Tx)(as:ao Ex)(f p:aB):rk (AG sc (.ip x as)) (iw sc f p (.ip x as)):=by
 show rk (match eR x sc 0 with
  |some (_,.c _ q)=>aM q.a as.a&&yU sc (q.d (·.2)) as
  |_=>aw) (match eR x sc 0 with
  |some (l,.c a q)=>(match aM q.a as.a with
   |true=>(qe sc (q.d (·.2)) as).g λc=>.e (c++[.f,.m l a as.a])
   |false=>.i)
  |_=>.i:R (ao In))
 rcases eR x sc 0 with _|⟨l,a|a|⟨a,z⟩|⟨a,q⟩⟩<;>first|exact (af:R.i=R.i)|skip
 show rk (aM q.a as.a&&yU sc (q.d (·.2)) as) (match aM q.a as.a with
   |true=>(qe sc (q.d (·.2)) as).g λc=>.e (c++[.f,.m l a as.a])
   |false=>.i:R (ao In))
 cases aM q.a as.a with
 |true=>exact (vq sc _ _).Cv
 |false=>exact (af:R.i=R.i)
theorem me (sc:ao cG):∀(s:St) (f p:aB),rk (AG sc s) (iw sc f p s)
 |.iS,f,p=>⟨_,af⟩
 |.U x e,f,p=>(BO sc x).2.uG λc=>(md sc e).Cv
 |.iR x i e,f,p=>(BP (md sc i)).uG λc=>(md sc e).Cv
 |.ip x d,f,p=>Jk sc x d f p
 |.uF c a,f,p=>(md sc c).uG λv=>(me sc a _ _).Cv
 |.uE c a b,f,p=>(md sc c).uG λv=>(me sc a _ _).uG λs=>(me sc b _ _).Cv
 |.wt c a,f,p=>(md sc c).uG λv=>(me sc a _ _).Cv
 |.wu s c,f,p=>(me sc s _ _).uG λv=>(md sc c).Cv
 |.ti x a b g s,f,p=>(BO sc x).2.uG λw=>(md sc a).uG λu=>(md sc b).uG λv=>(me sc s _ _).Cv
 |.vM s,f,p=>me sc s f p
 |.R e,f,p=>(md sc e).Cv
 |.nh s,f,p=>me sc s f p
 |.E s r,f,p=>(me sc s _ _).uG λc=>(me sc r _ _).Cv
structure Shw (T:dt)(D:aB->aJ cO):Prop extends Core T D where
 m:D 27=ah Y2
 o:D 28=ah ab5
 p:D 29=ah Y0
 h:D 30=ah Uz
 q:D 31=ah KH
 r:D 32=ah ab4
 s:D 33=ah ab3
 a:∀k,bM 27 k=ax->bM k 41=ax->T.a k=aq
noncomputable def iB (o:Tx):aB:=match bT o [43]||bT o [45] with
 |true=>1
 |false=>2
noncomputable def rY (b:bC)(s:Tx):Tx:=match b with
 |true=>[40]++s++[41]
 |false=>s
noncomputable def rF (a o b:Tx):Tx:=a++[32]++o++[32]++b
noncomputable def d7 (l:aB):Ex->Tx
 |.h n=>cU n
 |.g x=>x
 |.k x e=>x++[91]++d7 1 e++[93]
 |.m e=>[45]++d7 3 e
 |.l e=>[111,100,100,40]++d7 1 e++[41]
 |.c o a b=>match cF o (oy.d .c) with
  |true=>rF (d7 1 a) o (d7 1 b)
  |false=>rY (cL (iB o) l) (rF (d7 (iB o) a) o (d7 (iB o+1) b))
noncomputable def r5:Ex->aB
 |.h n=>(cU n).a
 |.g x=>x.a
 |.k x e=>x.a+1+r5 e+1
 |.m e=>1+r5 e
 |.l e=>4+r5 e+1
 |.c o a b=>1+(r5 a+1+o.a+1+r5 b)+1
noncomputable def Oe:Ex->bC
 |.h n=>bg (n<2 ^ 100)
 |.g _=>ax
 |.k _ e=>Oe e
 |.m e=>Oe e
 |.l e=>Oe e
 |.c _ a b=>Oe a&&Oe b
theorem B4 (a o b:Tx):(rF a o b).a=a.a+1+o.a+1+b.a:=by
 unfold rF;refine aA ai (aA ai (aA ai (aA ai ?_)));rfl
theorem nO:∀(e:Ex) (l:aB),(d7 l e).a<=r5 e:=by
 intro e
 induction e with
 |h n=>exact λz=>au _
 |g x=>exact λz=>au _
 |k x e c=>
  intro l;show (x++[91]++d7 1 e++[93]).a<=_;refine aA ai (aA ai (aA ai ?_));exact aj (ar (c 1) _) 1
 |m e c=>
  intro l;show ([45]++d7 3 e).a<=_;exact aA ai (ar (c 3) 1)
 |l e c=>
  intro l;show ([111,100,100,40]++d7 1 e++[41]).a<=_;refine aA ai (aA ai ?_);exact aj (ar (c 1) 4) 1
 |c o a b f d=>
  intro l;have m:∀p q,(rF (d7 p a) o (d7 q b)).a<=r5 a+1+o.a+1+r5 b:=λp q=>by
   rw [B4];exact aL (aj (aj (aj (f p) 1) _) 1) (d q)
  have g:r5 a+1+o.a+1+r5 b<=r5 (.c o a b):=ab (aF _ 1) (ak _ 1);show (match cF o (oy.d .c) with
   |true=>rF (d7 1 a) o (d7 1 b)
   |false=>rY (cL (iB o) l) (rF (d7 (iB o) a) o (d7 (iB o+1) b))).a<=_
  cases cF o (oy.d .c) with
  |true=>exact ab (m 1 1) g
  |false=>
   show (rY (cL (iB o) l) _).a<=_;unfold rY;cases cL (iB o) l with
   |true=>
    show ([40]++_++[41]).a<=_;refine aA ai (aA ai ?_);exact aj (ar (m _ _) 1) 1
   |false=>exact ab (m _ _) g
theorem Qq (h:cF o wW=ax):cF o [.c vA,.c sr]=aw/\bT o Ym=aw/\bT o Cd=aw/\bT o rZ=aw:=by
 unfold wW at h
 iterate 11 (rcases eU h with rfl|h; · exact fK af af af af)
 injection h
section
variable {T:dt}{D:aB->aJ cO}
noncomputable abbrev ux (Q:QV):QF:=λb z a=>match b with
 |.b v=>Q v a
 |.a=>Q .h a
 |_=>cR
theorem cE (h:ey T C b e σ (λv a=>di T C (.a s q) (bu e i v) a QQ XX) (XX e)):di T C (.a (.rA i b) (.a s q)) e σ QQ XX:=h
def XFn (T:dt)(D:aB->aJ cO)(e:Ex):Prop:=∀(l n:aB) (a:a8) (Q:QV) (X:QX),e.i=ax->Oe e=ax->r5 e<=100000->e.q<=n->Q (.c (d7 l e)) a->bp T D n 27 [e.d,.d l] a Q X
theorem adQ (h:a<=100002):a<=gL:=ab h (aa af)
theorem f7 (h:ey T C a e σ (λg d=>ey T C b e d (λf c=>Lj i g f c Q) X) X):ey T C (.n i a b) e σ Q X:=h
theorem eu (h:lQ T C as e σ (λvs a=>T.a f=aq/\C f vs a Q X) X):ey T C (.u f as) e σ Q X:=h
theorem MG (j:T.a f=aq)(w:e k=ah (.c o))(i:a.a+1+o.a+1+b.a<=100000)
  (y:∀{P:ao AV->a8->Prop},P [n,.d ia] σ->lQ T C (.a A (.a r .b)) e σ P X) (x:∀{P:ao AV->a8->Prop},P [l,.d ib] σ->lQ T C (.a z (.a p .b)) e σ P X)
  (v:∀{P:QV},P (.c a) σ->C f [n,.d ia] σ P X) (u:∀{P:QV},P (.c b) σ->C f [l,.d ib] σ P X) (q:Q (.c (rF a o b)) σ):ey T C (.n .a (.n .a (.n .a (.n .a (.u f (.a A (.a r .b))) (.h [32])) (.v k)) (.h [32])) (.u f (.a z (.a p .b)))) e σ Q X:=by
 have s:(a++[32]++o++[32]).a+b.a<=100000:=by refine aA ai (aA ai (aA ai ?_));exact i
 have d:(a++[32]++o).a+1<=100000:=by
  refine aA ai (aA ai ?_);exact ab (ak _ _) i
 have g:(a++[32]).a+o.a<=100000:=by
  rw [ai] at d;exact aT d
 have t:a.a+1<=100000:=by
  rw [ai] at g;exact ab (ak _ _) g
 have c:∀{m:aB},m<=100000->m<=gL:=λh=>ab h (aa af);refine f7 (f7 (f7 (f7 (eu (y ?_)))));refine ⟨j,v ?_⟩;refine ⟨c t,aH w (dX (c g) (c d) ?_)⟩;refine eu (x ?_);exact ⟨j,u ⟨c s,q⟩⟩
theorem Td (K:Shw T D):∀e:Ex,XFn T D e:=by
 intro e
 induction e with
 |h m=>
  intro l n g Q X _ j _ d q;refine oE d λn _=>?_;exact bU K.m af ⟨aX j,q⟩
 |g x=>
  intro l n g Q X _ _ _ d q;refine oE d λn _=>?_;exact bU K.m af q
 |k x e u=>
  intro l n g Q X s j f d q;obtain ⟨n,rfl⟩:=rJ (ab (aF 1 _) d);have t:=nO e 1;have f:x.a+1+r5 e+1<=100000:=f;have k:x.a+1+r5 e<=100000:=aT f;refine bU K.m af ?_;intro O N M L;refine dX (ab (ab (ak _ _) k) (by decide)) (K.a 27 af af) (u 1 n g _ X s j (ab (aF _ _) k) (aT (ab (cJ 3 _) (aY d))) (dX ?_ ?_ q))
  ·refine aA ai ?_;exact ab (ab (ar t _) k) (by decide)
  ·refine aA ai (aA ai ?_);exact ab (ab (aj (ar t _) 1) f) (by decide)
 |m e u=>
  intro l n g Q X s j f d q;obtain ⟨n,rfl⟩:=rJ (ab (aF 1 _) d);have t:=nO e 3;have f:1+r5 e<=100000:=f;exact bU K.m af ⟨K.a 27 af af,u 3 n g _ X s j (ab (aF _ _) f) (aY d) ⟨ab (ab (ar t 1) f) (by decide),q⟩⟩
 |l e u=>
  intro l n g Q X s j f d q;obtain ⟨n,rfl⟩:=rJ (ab (aF 1 _) d);have t:=nO e 1;have f:4+r5 e+1<=100000:=f;have k:4+r5 e<=100000:=aT f;refine bU K.m af ⟨K.a 27 af af,u 1 n g _ X s j (ab (aF _ _) k) (aY d) (dX (ab (ab (ar t 4) k) (by decide)) ?_ q)⟩;refine aA ai ?_;exact ab (ab (aj (ar t 4) 1) f) (by decide)
 |c o a b G F=>
  intro l n g Q X s j f d q;refine oE d λn d=>?_;have d:=bj.g d;have s:=ae.g s;have w:=ae.g s.1;have j:=ae.g j;have f:1+(r5 a+1+o.a+1+r5 b)+1<=100000:=f;have k:r5 a+1+o.a+1+r5 b<=100000:=ab (aF _ 1) (aT f);have la:r5 a<=100000:=ab (ab (ak _ 1) (ab (ak _ o.a) (ab (ak _ 1) (ak _ (r5 b))))) k;have lb:r5 b<=100000:=ab (aF _ _) k;have C:∀p r,(d7 p a).a+1+o.a+1+(d7 r b).a<=r5 a+1+o.a+1+r5 b:=λp r=>aL (aj (aj (aj (nO a p) 1) _) 1) (nO b r);refine Bz (Qq w.1) λZ Y W V=>?_;have A:=λ(p:aB) {P:QV} (q:P (.c (d7 p a)) g)=>G p n g P X w.2 j.1 la d.1 q;have B:=λ(p:aB) {P:QV} (q:P (.c (d7 p b)) g)=>F p n g P X s.2 j.2 lb d.2 q;refine bU K.m af ?_;intro O N M L;show v8 (.g (cF o [.c vA,.c sr])) _ _;refine aA Z ?_;show v8 (.g (bT o Ym)) _ _;refine aA Y ?_;show v8 (.g (bT o Cd)) _ _;refine aA W ?_;show v8 (.g (bT o rZ)) _ _;refine aA V ?_;refine b8 K.f ?_;show v8 (.g (cF o (oy.d .c))) _ _;have q:Q (.c (match cF o (oy.d .c) with
   |true=>rF (d7 1 a) o (d7 1 b)
   |false=>rY (cL (iB o) l) (rF (d7 (iB o) a) o (d7 (iB o+1) b)))) g:=q
  revert q;cases cF o (oy.d .c) with
  |true=>exact λq=>MG (K.a 27 af af) af (ab (C 1 1) k) (λp=>p) (λp=>p) (A 1) (B 1) q
  |false=>
   intro q;have c:∀(v:aB),v=iB o->∀{e:Ev},e 0=ah (.f [.c o,a.d,b.d])->e 1=ah (.d l)->e 2=ah (.c o)->e 3=ah (.d v)->di T (bp T D n) (dj 8 Y2.a) e g (ux Q) (λ_ y=>X y):=by
    rintro v rfl e J e1 e2 H;refine cE (MG (ia:=iB o) (ib:=((iB o+1:aB):aU)) (K.a 27 af af) e2 (ab (C (iB o) (iB o+1)) k) (λp=>aH J (aH H p)) (λp=>aH J (aH H p)) (A (iB o)) (B (iB o+1)) ?_);have I:(rF (d7 (iB o) a) o (d7 (iB o+1) b)).a<=99998:=by
     rw [B4];exact ab (C _ _) (aY (aY (ab (aV (by rw [cv 1])) f)))
    refine aH (e:=bu e 4 _) (i:=3) H (aH (e:=bu e 4 _) (i:=1) e1 ?_);unfold rY at q;refine fE (b:=bg (((iB o:aB):aU)<(l:aU))) (λh=>?_) λh=>?_
    ·have q:=(show cL (iB o) l=ax from cK (cM.g (aX h)))▸q;refine dX (ab (ar I 1) (aa af)) ?_ q;refine aA ai ?_;exact ab (aj (ar I 1) 1) (aa af)
    ·have q:=(show cL (iB o) l=aw from b6.i λz=>cV h (cM.i (aa z)))▸q;exact q
   unfold iB at c;show v8 (.g (bT o [43])) _ _;revert c;cases bT o [43] with
   |true=>exact λc=>c 1 af (e:=bu (bu (bu (λi=>[(Ex.c o a b).d,AV.d l][i]?) 2 (.c o)) 3 (.d 2)) 3 (.d 1)) af af af af
   |false=>
    intro c;show v8 (.g (bT o [45])) _ _;revert c;cases bT o [45] with
    |true=>exact λc=>c 1 af (e:=bu (bu (bu (λi=>[(Ex.c o a b).d,AV.d l][i]?) 2 (.c o)) 3 (.d 2)) 3 (.d 1)) af af af af
    |false=>exact λc=>c 2 af (e:=bu (bu (λi=>[(Ex.c o a b).d,AV.d l][i]?) 2 (.c o)) 3 (.d 2)) af af af af
end
noncomputable def jT (ts:ao Tx):Tx:=eN [32] (ts.ke λt=>!bT t [])
theorem xi:∀ts:ao Tx,p7 (ts.d .c)=ah ts:=by
 intro b
 induction b with
 |nil=>
  exact af
 |cons t ts a=>
  show (p7 (ts.d .c)).d (t::·)=_;exact aA a af
noncomputable def uk (ts:ao Tx):aB:=(ts.d cC).sum+ts.a
theorem Eh (p:Tx->bC):∀ts:ao Tx,uk (ts.ke p)<=uk ts:=by
 intro b
 induction b with
 |nil=>
  exact au _
 |cons t ts a=>
  have h:=a;have e:uk (t::ts)=uk ts+(t.a+1):=by
   show t.a+(ts.d cC).sum+(ts.a+1)=_;unfold uk;rw [cv t.a,bW,wJ t.a,bW]
  refine aA ef (aA e ?_);cases p t with
  |true=>
   have c:uk (t::ts.ke p)=uk (ts.ke p)+(t.a+1):=by
    show t.a+((ts.ke p).d cC).sum+((ts.ke p).a+1)=_;unfold uk;rw [cv t.a,bW,wJ t.a,bW]
   exact aA c (aj h _)
  |false=>exact ab h (ak _ _)
theorem D8:∀ts:ao Tx,(eN [32] ts).a<=uk ts
 |[]=>au _
 |[t]=>by
  show t.a<=t.a+0+1;exact bh _
 |t::u::ts=>by
  have h:=D8 (u::ts);show (t++[32]++eN [32] (u::ts)).a<=t.a+((u::ts).d cC).sum+((u::ts).a+1);refine aA ai (aA ai ?_);unfold uk at h;rw [bW t.a,bW t.a];exact ar (ab (aV (cv 1 _)) (az h)) _
theorem MR (ts:ao Tx):(jT ts).a<=uk ts:=ab (D8 _) (Eh _ ts)
section
variable {T:dt}{D:aB->aJ cO}
theorem vB (K:Shw T D)(d:l=ts.d .c)(b:σ[r]?=ah (.a l))(c:uk ts<=100000)(q:∀a,jL σ a->Q (.c (jT ts)) a):bp T D (n+1) 28 [.e r] σ Q X:=by
 subst d;refine bU K.o af ?_;intro i g f e;refine bk b (b8 (xi ts) (bk bO (l4 _ (xi _) ?_ (q _ (jL.ig _).eP))));have h:=ab (Eh (λt=>!bT t []) ts) c;unfold uk at h;exact ab (ab (ar (aV (Nat.mul_one _)) _) h) (aa af)
end
noncomputable def DH:Tx:=[105,102,32]
noncomputable def yG:Tx:=[32,116,104,101,110]
noncomputable def sR:Tx:=[32,58,61,32]
noncomputable def DD:bC->Tx
 |true=>[32,116,111,32]
 |false=>[32,100,111,119,110,116,111,32]
noncomputable def Tn (x:Tx):ao Ex->Tx
 |[]=>x
 |a::b=>x++[40]++eN [44,32] ((a::b).d (d7 1))++[41]
mutual
noncomputable def fq:St->Tx
 |.iS=>[]
 |.U x e=>x++sR++d7 1 e
 |.iR x i e=>x++[91]++d7 1 i++[93]++sR++d7 1 e
 |.ip x f=>Tn x f
 |.uF c a=>jT [DH++d7 1 c++yG,fq a]
 |.uE c a b=>jT [jT [DH++d7 1 c++yG,fq a],[101,108,115,101],fq b]
 |.wt c a=>jT [[119,104,105,108,101,32]++d7 1 c++[32,100,111],fq a]
 |.wu s c=>jT [[114,101,112,101,97,116],sT s,[117,110,116,105,108,32]++d7 1 c]
 |.ti x a b d s=>jT [[102,111,114,32]++x++sR++d7 1 a++DD d++d7 1 b++[32,100,111],fq s]
 |.vM s=>jT [[98,101,103,105,110],sT s,[101,110,100]]
 |.R e=>[119,114,105,116,101,40]++d7 1 e++[41]
 |.nh s=>[]
 |.E s r=>[]
noncomputable def sT:St->Tx
 |.nh s=>fq s
 |.E s r=>q7 (fq s) r
 |_=>[]
noncomputable def q7 (a:Tx):St->Tx
 |.nh s=>jT [a++[59],fq s]
 |.E s r=>q7 (jT [a++[59],fq s]) r
 |_=>a
end
inductive Md where
 |n|w (s:Tx)|d (s:Tx)|c|p (a:aB)|u|v|x
noncomputable def Md.ctorIdx (x:Md):aB:=@Md.casesOn (λz=>aB) x 0 (λz=>1) (λz=>2) 3 (λz=>4) 5 6 7
noncomputable def FU (s:Tx):cQ:=match cF s BF with
 |true=>.a s
 |false=>.b s
set_option genCtorIdx true in
inductive Cl where
 |d|e|c|f|g|b|a
noncomputable def Yo (c:aB):Cl:=match d0 c [32,10] with
 |true=>.d
 |false=>match aM c 123 with
 |true=>.e
 |false=>match gP c with
 |true=>.c
 |false=>match eE c with
 |true=>.f
 |false=>match d0 c [58,60,62] with
 |true=>.g
 |false=>match d0 c yI with
 |true=>.b
 |false=>.a
noncomputable def gw (a:bC)(c:aB)(ts:ao cQ):aJ (Md×ao cQ):=match Yo c with
 |.d=>ah (.n,ts)
 |.e=>ah (.c,ts)
 |.c=>ah (.w [tE c],ts)
 |.f=>ah (.d [c],ts)
 |.g=>ah (.p c,ts)
 |.b=>(match a&&aM c 46 with
  |true=>aq
  |false=>ah (.n,ts++[.a [c]]))
 |.a=>aq
noncomputable def uS (c:aB)(ts:ao cQ):aJ (Md×ao cQ):=match d0 c [32,10] with
 |true=>ah (.u,ts)
 |false=>match aM c 40 with
 |true=>ah (.v,ts++[.a [40]])
 |false=>aq
noncomputable def Te (a:bC)(s:Tx)(c:aB)(ts:ao cQ):aJ (Md×ao cQ):=match a with
 |false=>gw aw c (ts++[FU s])
 |true=>match bT s kA||bT s qQ with
  |true=>aq
  |false=>match bT s iN with
   |true=>uS c (ts++[FU s])
   |false=>gw ax c (ts++[FU s])
noncomputable def nxt (s:Tx)(c:aB):bC:=match aM c 114 with
 |true=>(match s with
  |[]=>ax
  |x::s=>match aM x 119 with
   |true=>s.isEmpty
   |false=>ax)
 |false=>match aM c 103 with
  |true=>(match s with
   |[]=>ax
   |x::_=>!aM x 111)
  |false=>ax
noncomputable def zV (a:bC)(s:Tx)(ts:ao cQ)(c:aB):aJ (Md×ao cQ):=match kE c with
 |true=>(match a&&!nxt s (tE c) with
  |true=>aq
  |false=>ah (.w (tE c::s),ts))
 |false=>Te a s.B c ts
noncomputable def wV (a:bC)(s:Tx)(ts:ao cQ)(c:aB):aJ (Md×ao cQ):=match eE c with
 |true=>(match bM s.a 100 with
  |true=>ah (.d (c::s),ts)
  |false=>aq)
 |false=>match gP c with
  |true=>aq
  |false=>gw a c (ts++[.c (ma s.B)])
noncomputable def FX (ts:ao cQ)(c:aB):aJ (Md×ao cQ):=match aM c 125 with
 |true=>ah (.n,ts)
 |false=>match d0 c [49,97,35,120] with
  |true=>ah (.c,ts)
  |false=>aq
noncomputable def tZ (b:bC)(a:aB)(ts:ao cQ)(c:aB):aJ (Md×ao cQ):=match aM c 61||(aM a 60&&aM c 62) with
 |true=>ah (.n,ts++[.a [a,c]])
 |false=>match b&&aM a 58 with
  |true=>aq
  |false=>gw b c (ts++[.a [a]])
noncomputable def Jh (ts:ao cQ)(c:aB):aJ (Md×ao cQ):=match d0 c [32,10] with
 |true=>ah (.v,ts)
 |false=>match d0 c [121,89,88,123] with
  |true=>aq
  |false=>match aM c 120 with
   |true=>ah (.x,ts)
   |false=>gw ax c ts
noncomputable def LW (ts:ao cQ)(c:aB):aJ (Md×ao cQ):=match kE c||aM c 41 with
 |true=>aq
 |false=>gw ax c (ts++[.b [120]])
noncomputable def Aw (b:bC)(m:Md)(ts:ao cQ)(c:aB):aJ (Md×ao cQ):=match m with
 |.n=>gw b c ts
 |.w s=>zV b s ts c
 |.d s=>wV b s ts c
 |.c=>FX ts c
 |.p a=>tZ b a ts c
 |.u=>uS c ts
 |.v=>Jh ts c
 |.x=>LW ts c
abbrev Sx:=Md×ao cQ
noncomputable def go (a:bC):Sx->Tx->aJ Sx
 |q,[]=>ah q
 |q,c::l=>(Aw a q.1 q.2 c).J λq=>go a q l
theorem yX:∀(u v:Tx) (q:Sx),go a q (u++v)=(go a q u).J λq=>go a q v:=by
 intro d
 induction d with
 |nil=>
  intro _ _;exact af
 |cons c u b=>
  intro v q;show (Aw a q.1 q.2 c).J (λq=>go a q (u++v))=((Aw a q.1 q.2 c).J λq=>go a q u).J _;cases Aw a q.1 q.2 c with
  |none=>rfl
  |some q=>exact b v q
theorem S8 (h:go c q u=ah b)(d:go c b v=ah a):go c q (u++v)=ah a:=by
 rw [yX];refine aA h ?_;exact d
theorem QZ (h:go c q (u++v)=ah b):∃a,go c q u=ah a/\go c a v=ah b:=by
 rw [yX] at h;cases e:go c q u with
 |none=>have h:=e▸h;injection h
 |some a=>rw [e] at h;exact bQ a af h
theorem xm:∀{a l:Tx},sH a l=ax->∃r,l=a++r
 |[],l,_=>⟨l,af⟩
 |x::a,y::l,h=>by
  have h:=ae.g (show (aM x y&&sH a l)=ax from h);obtain ⟨r,rfl⟩:=xm h.2;exact ⟨r,dw (aD h.1) af⟩
theorem Az:∀(k:aB) (l:Tx),gk a b k l=gk a b 0 (l.m k)
 |0,_=>af
 |_+1,[]=>af
 |k+1,_::l=>Az k l
theorem DQ {a b r:Tx}(h:a≠[])(d:sH a (a++r)=ax):ct a b (a++r)=b++ct a b r:=by
 cases a with
 |nil=>exact bZ af h
 |cons c a=>
  show (match sH (c::a) (c::(a++r)) with
   |true=>b++gk (c::a) b a.a (a++r)
   |false=>c::gk (c::a) b 0 (a++r))=_
  refine aA (show sH (c::a) (c::(a++r))=ax from d) ?_;rw [Az,List.drop_left];rfl
theorem iW {a b l:Tx}(d:sH a (c::l)=aw):ct a b (c::l)=c::ct a b l:=by
 show (match sH a (c::l) with
   |true=>b++gk a b (a.a-1) l
   |false=>c::gk a b 0 l)=_
 exact aA d af
theorem Hp {a b:Tx}(p:a≠[])(h:∀q r,go m q a=ah r->go m q b=ah r):∀(n:aB) (T:Tx),T.a<=n->∀q r,go m q T=ah r->go m q (ct a b T)=ah r:=by
 intro n
 induction n with
 |zero=>
  intro T i q r g;cases T with
  |nil=>exact g
  |cons c l=>cases i
 |succ n o=>
  intro T i q r g;cases T with
  |nil=>exact g
  |cons c l=>
   cases k:sH a (c::l) with
   |false=>
    refine aA (iW k) ?_;refine bf (QZ (u:=[c]) g) λj f d=>?_;exact S8 (u:=[c]) f (o l (aY i) _ _ d)
   |true=>
    obtain ⟨s,e⟩:=xm k;rw [e] at k g i ⊢;refine aA (DQ p k) ?_;refine bf (QZ g) λj f d=>?_;refine S8 (h _ _ f) (o s ?_ _ _ d);cases a with
    |nil=>exact bZ af p
    |cons x a=>
     rw [ai] at i;exact ab (aF _ a.a) (aY (ab (aV (EW _ _).h) i))
theorem Ho (h:∀q,go n q a=aq):∀(T:Tx) (q r:Sx),go n q T=ah r->ct a b T=T:=by
 intro m
 induction m with
 |nil=>
  intro _ _ _;exact af
 |cons c l j=>
  intro q r g;cases k:sH a (c::l) with
  |false=>
   refine aA (iW k) ?_;refine bf (QZ (u:=[c]) g) λf d i=>?_;exact aA (j _ _ i) af
  |true=>
   obtain ⟨s,e⟩:=xm k;rw [e] at g;refine bf (QZ g) λf d z=>?_;have d:=h q▸d;injection d
theorem BV {v:Tx}:∀{a u:Tx},d0 c a=aw->sH a (u++c::v)=sH a u
 |[],_,_=>af
 |x::a,[],h=>by
  have h:=bN.g (show (aM c x||d0 c a)=aw from h);show (aM x c&&sH a v)=aw;refine aA (show aM x c=aw from b6.i λq=>by rw [aD q,gU] at h;injection h.1) ?_;rfl
 |x::a,y::u,h=>by
  exact aW (aM x y&&·) (BV (bN.g (show (aM c x||d0 c a)=aw from h)).2)
theorem Hv:∀{a l:Tx},sH a l=ax->a.a<=l.a
 |[],_,_=>bG _
 |_::_,_::_,h=>az (Hv (ae.g h).2)
theorem jU {a b:Tx}(e:a≠[])(h:d0 c a=aw){v:Tx}:∀(u:Tx) (k:aB),k<=u.a->gk a b k (u++c::v)=gk a b k u++c::gk a b 0 v
 |[],k,f=>by
  obtain rfl:=Nat.le_zero.g f;refine iW ((BV (u:=[]) h).b ?_);cases a with
  |nil=>exact bZ af e
  |cons x a=>rfl
 |d::u,k+1,f=>jU e h u k (aY f)
 |d::u,0,_=>by
  show (match sH a (d::u++c::v) with
   |true=>b++gk a b (a.a-1) (u++c::v)
   |false=>d::gk a b 0 (u++c::v))=(match sH a (d::u) with
   |true=>b++gk a b (a.a-1) u
   |false=>d::gk a b 0 u)++c::gk a b 0 v
  refine aA (BV (v:=v) (u:=d::u) h) ?_;cases g:sH a (d::u) with
  |false=>exact aW (d::·) (jU e h u 0 (bG _))
  |true=>
   show b++gk a b (a.a-1) (u++c::v)=b++gk a b (a.a-1) u++c::gk a b 0 v;refine aA (jU e h u (a.a-1) (ab (Nat.sub_le_sub_right (Hv g) 1) (aV af))) ?_;rw [ag]
theorem abL {a b:Tx}(d:a≠[])(h:d0 c a=aw)(u v:Tx):ct a b (u++c::v)=ct a b (u++[c])++ct a b v:=by
 show gk a b 0 _=gk a b 0 _++_;refine aA (jU d h u 0 (bG _)) ?_;rw [jU d h u 0 (bG _),ag];rfl
def wy (T:Tx)(res:R (ao cQ)):Prop:=∀g,T.a<g->sW g T=res
noncomputable def CH (a:ao cQ)(res:R (ao cQ)):R (ao cQ):=res.g λb=>.e (a++b)
theorem Ql (res:R (ao cQ)):CH [] res=res:=by cases res<;>rfl
theorem Mo (k:cQ)(a:ao cQ)(res:R (ao cQ)):(CH a res).g (λts=>.e (k::ts))=CH (k::a) res:=by cases res<;>rfl
noncomputable def MD (k:aJ cQ)(ts:ao cQ):ao cQ:=match k with
 |aq=>ts
 |some k=>k::ts
theorem wy.one (h:qr c l=.e (k,q))(d:q.a<=l.a)(b:wy q res):wy (c::l) (res.g λts=>.e (MD k ts)):=by
 intro g a;cases g with
 |zero=>cases a
 |succ g=>
  show ((qr c l).g λq=>(sW g q.2).g λts=>.e (MD q.1 ts))=_;refine aA h ?_;show (sW g q).g _=_;exact aA (b g (aQ d (fZ a))) af
theorem wy.abw (h:qr c l=.e (aq,q))(d:q.a<=l.a)(b:wy q res):wy (c::l) res:=by
 have:=wy.one h d b;have e:(res.g λa=>R.e (MD aq a))=res:=by cases res<;>rfl
 exact (dw e this)
theorem wy.tok (h:qr c l=.e (ah k,q))(d:q.a<=l.a)(b:wy q (CH a res)):wy (c::l) (CH (k::a) res):=dw (Mo k a res) (wy.one h d b)
theorem LL {t:Tx}(f:p c=aw):∀{r:Tx},r.oG p=ax->(r++c::t).G p=r/\(r++c::t).V p=c::t:=by
 intro e
 induction e with
 |nil=>
  intro _;show (c::t).G p=[]/\(c::t).V p=_;refine aA gO (aA tc (aA f ?_));exact ⟨af,af⟩
 |cons d r a=>
  intro h;have h:=ae.g (show (p d&&r.oG p)=ax from h);have b:=a h.2;show (d::(r++c::t)).G p=_/\(d::(r++c::t)).V p=_;refine aA gO (aA tc (aA h.1 ?_));exact ⟨aW (d::·) b.1,b.2⟩
theorem Gw (h:gP c=ax):d0 c [32,10]=aw/\aM c 123=aw:=by
 constructor
 ·refine b6.i λq=>?_;rcases aZ.g q with q|q
  ·have h:=aD q▸h;injection h
  ·rcases aZ.g q with q|q
   ·have h:=aD q▸h;injection h
   ·injection q
 ·exact b6.i λq=>by have h:=aD q▸h;injection h
theorem Gm (h:eE c=ax):d0 c [32,10]=aw/\aM c 123=aw/\gP c=aw:=by
 have a:∀n,eE n=aw->aM c n=aw:=λn b=>b6.i λq=>by rw [aD q,b] at h;injection h
 refine dX (bN.i ⟨a 32 af,bN.i ⟨a 10 af,af⟩⟩) (a 123 af) (b6.i λq=>?_);have h:=aX (ae.g h).2;rcases aZ.g q with q|q
 ·exact bZ (ab (aX (ae.g q).1) h) (by decide)
 ·exact bZ (ab (aX (ae.g q).1) h) (by decide)
theorem ML {b t:Tx}(j:b.oG kE=ax)(f:mF b=ax)(i:kE c=aw)(h:wy (c::t) (CH g res)):wy (b++c::t) (CH (FU (b.d tE)::g) res):=by
 cases b with
 |nil=>injection f
 |cons d r=>
  have e:=LL (t:=t) i j;have a:gP d=ax:=f;refine wy.tok (l:=r++c::t) (q:=c::t) ?_ (by refine aA ai ?_;exact aF _ _) h;unfold qr;refine aA (Gw a).1 (aA (Gw a).2 (aA a ?_));show Wy (((d::r++c::t).G kE).d tE) ((d::r++c::t).V kE)=_;refine aA e.1 (aA e.2 ?_);rfl
theorem QB {b t:Tx}(f:b.oG eE=ax)(m:b≠[])(k:b.a<=600)(i:eE c=aw)(j:gP c=aw)(h:wy (c::t) (CH g res)):wy (b++c::t) (CH (.c (ma b)::g) res):=by
 cases b with
 |nil=>exact bZ af m
 |cons d r=>
  have e:=LL (t:=t) i f;have a:=Gm (ae.g f).1;refine wy.tok (l:=r++c::t) (q:=c::t) ?_ (by refine aA ai ?_;exact aF _ _) h;unfold qr;refine aA a.1 (aA a.2.1 (aA a.2.2 (aA (ae.g f).1 ?_)));show (match mF ((d::r++c::t).V eE) with
   |true=>(R.i:R (aJ cQ×Tx))
   |false=>match bM ((d::r++c::t).G eE).a 600 with
    |true=>.e (ah (cQ.c (ma ((d::r++c::t).G eE))),(d::r++c::t).V eE)
    |false=>.j)=_
  exact aA e.1 (aA e.2 (aA (show mF (c::t)=aw from j) (aA (cK k) af)))
theorem JA {t:Tx}:∀{r:Tx},d0 125 r=aw->oA 125 (r++125::t)=ah t:=by
 intro b
 induction b with
 |nil=>
  intro _;exact af
 |cons d r a=>
  intro h;have h:=bN.g (show (aM 125 d||d0 125 r)=aw from h);have e:aM d 125=aw:=b6.i λq=>by have h:=aD q▸h;injection h.1
  show (match aM d 125 with
   |true=>ah (r++125::t)
   |false=>oA 125 (r++125::t))=_
  exact aA e (a h.2)
def Pd:Md->Tx->Prop
 |.n,r=>r=[]
 |.w s,r=>r.d tE=s.B/\r.oG kE=ax/\mF r=ax
 |.d s,r=>r=s.B/\r.oG eE=ax/\r≠[]/\r.a<=101
 |.c,r=>∃q,r=123::q/\d0 125 q=aw
 |.p a,r=>r=[a]/\d0 a [58,60,62]=ax
 |_,_=>cR
theorem ui:∀{a b:Tx},d0 c a=aw->d0 c b=aw->d0 c (a++b)=aw:=by
 intro e
 induction e with
 |nil=>
  intro _ _ h;exact h
 |cons _ a d=>
  intro b h f;exact bN.i ⟨(bN.g h).1,d (bN.g h).2 f⟩
theorem Hm {a c:aB}{t:Tx}(h:d0 a [58,60,62]=ax)(b:bC)(f:(aM c 61||(aM a 60&&aM c 62))=b):qr a (c::t)=match (generalizing:=false) b with
  |true=>.e (ah (.a [a,c]),t)
  |false=>.e (ah (.a [a]),c::t):=by
 have d:∀b,cF [a,c] wh=b->d0 a yI=ax->D6 a (c::t)=match (generalizing:=false) b with
  |true=>.e (ah (.a [a,c]),t)
  |false=>.e (ah (.a [a]),c::t):=λb i g=>by
  show (match cF [a,c] wh with
   |true=>(R.e (ah (.a [a,c]),t):R (aJ cQ×Tx))
   |false=>match d0 a yI with
    |true=>.e (ah (.a [a]),c::t)
    |false=>.i)=_
  exact aA i (aA g af)
 have e:cF [a,c] wh=((aM a 58&&(aM c 61&&ax))||((aM a 60&&(aM c 62&&ax))||((aM a 60&&(aM c 61&&ax))||((aM a 62&&(aM c 61&&ax))||false)))):=af;rcases aZ.g h with q|q
 ·rw [aD q] at e d f ⊢;refine d b (e.b (CD ?_ f)) af;cases aM c 61<;>cases aM c 62<;>rfl
 rcases aZ.g q with q|q
 ·rw [aD q] at e d f ⊢;refine d b (e.b (CD ?_ f)) af;cases aM c 61<;>cases aM c 62<;>rfl
 rcases aZ.g q with q|q
 ·rw [aD q] at e d f ⊢;refine d b (e.b (CD ?_ f)) af;cases aM c 61<;>cases aM c 62<;>rfl
 ·refine gl ?_;intro j;cases q
theorem Qo {l:Tx}(h:d0 c [58,60,62]=aw):cF ((c::l).K 2) wh=aw:=by
 have b:=bN.g (show (aM c 58||(aM c 60||(aM c 62||false)))=aw from h);have a:=bN.g b.2;show ((aM c 58&&_)||((aM c 60&&_)||((aM c 60&&_)||((aM c 62&&_)||false))))=aw;refine aA b.1 (aA a.1 (aA (bN.g a.2).1 ?_));rfl
section
variable {Q:Tx}{res:R (ao cQ)}
def GL (Q:Tx)(res:R (ao cQ))(P:Tx):Prop:=∀(m:Md) (b:Tx),Pd m b->∀(d a:ao cQ),go aw (m,d) P=ah (.n,a)->∃c,a=d++c/\wy (b++(P++Q)) (CH c res)
theorem uC (b:GL Q res P)(h:(gw aw c ts).J (λq=>go aw q P)=ah (.n,k)):∃a,k=ts++a/\wy (c::(P++Q)) (CH a res):=by
 unfold gw Yo at h;cases j:d0 c [32,10] with
 |true=>
  have h:=j▸h;refine bf (b .n [] af _ _ h) λa e l=>?_;exact bQ a e (wy.abw (by unfold qr;exact aA j af) (au _) l)
 |false=>
 have h:=j▸h;cases i:aM c 123 with
 |true=>
  have h:=i▸h;refine bf (b .c [123] (bQ [] af af) _ _ h) λa e l=>?_;exact aA (aD i) (bQ a e l)
 |false=>
 have h:=i▸h;refine gl ?_;intro n;cases d:gP c with
 |true=>
  have h:=d▸h;exact b (.w [tE c]) [c] (dX af (by show ((gP c||eE c)&&ax)=ax;refine aA d ?_;rfl) d) _ _ h
 |false=>
 have h:=d▸h;cases g:eE c with
 |true=>
  have h:=g▸h;exact b (.d [c]) [c] (fK af (by show (eE c&&ax)=ax;refine aA g ?_;rfl) (cP _ _) (by decide:1<=101)) _ _ h
 |false=>
 have h:=g▸h;cases f:d0 c [58,60,62] with
 |true=>
  have h:=f▸h;exact b (.p c) [c] ⟨af,f⟩ _ _ h
 |false=>
 have h:=f▸h;cases m:d0 c yI with
 |false=>have h:=m▸h;injection h
 |true=>
  refine bf (b .n [] af _ _ (m▸h)) λa e l=>?_;refine bQ (_::a) (e.b (ag _ _ _)) (wy.tok ?_ (au _) l);unfold qr;refine aA j (aA i (aA d (aA g ?_)));show D6 c (P++Q)=_;unfold D6;exact aA (Qo f) (aA m af)
theorem Gi (B:wy Q res):∀P:Tx,GL Q res P:=by
 intro y
 induction y with
 |nil=>
  intro m g b t i h;cases h;exact bQ [] ((bD _).h) (by refine aA (show g=[] from b) ?_;rw [Ql];exact B)
 |cons c P u=>
  intro m g b t i h;have o:=u;cases m with
  |n=>
   exact aA (show g=[] from b) (uC o h)
  |w s=>
   have h:(zV aw s t c).J (λq=>go aw q P)=ah (.n,i):=h;unfold zV at h;cases f:kE c with
   |true=>
    rw [f] at h;have:=o (.w (tE c::s)) (g++[c]) ⟨cw▸b.1▸dw jm af,by refine aA List.all_append (aA b.2.1 ?_);show (ax&&(kE c&&ax))=ax;refine aA f ?_;rfl,by
     cases g with
     |nil=>exact aR b.2.2
     |cons d r=>exact b.2.2⟩ _ _ h
    refine gl ?_;intro C;rw [ag] at this;exact this
   |false=>
    rw [f] at h;refine bf (uC o h) λk e l=>?_;exact bQ (_::k) (e.b (ag _ _ _)) (dw b.1 (ML b.2.1 b.2.2 f l))
  |d s=>
   have h:(wV aw s t c).J (λq=>go aw q P)=ah (.n,i):=h;unfold wV at h;cases f:eE c with
   |true=>
    rw [f] at h;cases j:bM s.a 100 with
    |false=>have h:=j▸h;injection h
    |true=>
    have h:=j▸h;have:=o (.d (c::s)) (g++[c]) (fK (b.1▸jm▸af) (by refine aA List.all_append (aA b.2.1 ?_);show (ax&&(eE c&&ax))=ax;refine aA f ?_;rfl) (List.append_ne_nil_of_right_ne_nil _ (cP _ _)) (by refine aA ai (aA b.1 (aA mK ?_));exact az (aa j))) _ _ h;rw [ag] at this;exact this
   |false=>
    rw [f] at h;cases j:gP c with
    |true=>have h:=j▸h;injection h
    |false=>
    have h:=j▸h;refine bf (uC o h) λk e l=>?_;exact bQ (_::k) (e.b (ag _ _ _)) (dw b.1 (QB b.2.1 b.2.2.1 (ab b.2.2.2 (aa af)) f j l))
  |c=>
   have h:(FX t c).J (λq=>go aw q P)=ah (.n,i):=h;unfold FX at h;refine bf b λq v x=>?_;subst v;cases f:aM c 125 with
   |true=>
    have h:=f▸h;refine bf (o .n [] af _ _ h) λk e l=>?_;refine aA (aD f) ?_;refine bQ k e (wy.abw (q:=P++Q) ?_ (show (P++Q).a<=(q++125::(P++Q)).a by refine aA (ai (as:=q)) ?_;exact ab (bh _) (aF _ _)) l);show (match oA 125 (q++125::(P++Q)) with
     |aq=>R.i
     |some A=>.e (aq,A))=_
    exact aA (JA x) af
   |false=>
    have h:=f▸h;refine gl ?_;intro C;cases j:d0 c [49,97,35,120] with
    |false=>have h:=j▸h;injection h
    |true=>
    rw [j] at h;have:=o .c (123::(q++[c])) (bQ _ af (ui x (bN.i ⟨b6.i (λz=>by rw [← aD z] at f;injection f),af⟩))) _ _ h;rw [eF,ag] at this;exact this
  |p a=>
   have h:(tZ aw a t c).J (λq=>go aw q P)=ah (.n,i):=h;unfold tZ at h;refine aA b.1 ?_;cases f:aM c 61||(aM a 60&&aM c 62) with
   |true=>
    rw [f] at h;obtain ⟨k,e,l⟩:=o .n [] af _ _ h;exact bQ (_::k) (e.b (ag _ _ _)) (wy.tok (l:=c::(P++Q)) (q:=P++Q) (Hm b.2 ax f) (bh _) l)
   |false=>
    rw [f] at h;refine bf (uC o h) λk e l=>?_;exact bQ (_::k) (e.b (ag _ _ _)) (wy.tok (l:=c::(P++Q)) (q:=c::(P++Q)) (Hm b.2 aw f) (au _) l)
  |_=>exact b.e
end
noncomputable def kf:ao (Tx×Tx):=[([59,32],[59,10]),([32],[32,32]),([59,32],[59,123,49,97,35,125]),([32,58,61,32],[58,61]),([120,32,58,32,105,110,116,101,103,101,114,59,32,121],[120,44,32,89]),([119,114,105,116,101,40],[87,82,73,84,69,32,40,32]),([119,114,105,116,101,40,121],[119,114,105,116,101,40,40,121,41]),([32,98,101,103,105,110,32],[32,66,69,71,73,78,123,120,125]),([32,60],[60]),([32,45,32,50,59],[32,45,32,48,48,50,59]),([101,110,100,46],[69,78,68,32,46,32,10]),([112,114,111,103,114,97,109,32,116,57,59],[123,125,112,82,111,71,114,97,109,10,84,57,32,59])]
theorem Xl (s:Tx)(ts:ao cQ):(∀c,Te ax s c ts=aq)\/(∀c,Te ax s c ts=uS c (ts++[FU s]))\/(∀c,Te ax s c ts=gw ax c (ts++[FU s])):=by
 unfold Te;cases bT s kA||bT s qQ with
 |true=>exact .C λz=>af
 |false=>
  cases bT s iN with
  |true=>exact .y (.C λz=>af)
  |false=>exact .y (.y λz=>af)
noncomputable def L7 (c:aB):bC:=d0 c [32,59,58,60]
theorem ZX {P:aB->Prop}(e:P 32)(d:P 59)(b:P 58)(a:P 60):∀c,L7 c=ax->P c:=by
 intro c h;rcases aZ.g h with h|h
 ·refine aA (aD h) ?_;exact e
 rcases aZ.g h with h|h
 ·refine aA (aD h) ?_;exact d
 rcases aZ.g h with h|h
 ·refine aA (aD h) ?_;exact b
 rcases aZ.g h with h|h
 ·refine aA (aD h) ?_;exact a
 injection h
inductive Kd:(aB->aJ Sx)->Prop
 |b:Kd λ_=>aq
 |a (ts:ao cQ):Kd λc=>gw ax c ts
 |u (ts:ao cQ):Kd λc=>uS c ts
 |v (ts:ao cQ):Kd (Jh ts)
 |c (ts:ao cQ):Kd (FX ts)
theorem qZ (k:Kd f)(e:Aw ax m ts 32=f 32)(d:Aw ax m ts 59=f 59)(b:Aw ax m ts 58=f 58)(a:Aw ax m ts 60=f 60):∃f,Kd f/\∀c,L7 c=ax->Aw ax m ts c=f c:=bQ f k (ZX e d b a)
theorem aaH (m:Md)(ts:ao cQ):∃f,Kd f/\∀c,L7 c=ax->Aw ax m ts c=f c:=by
 cases m with
 |n=>exact qZ (.a ts) af af af af
 |w s=>
  rcases Xl s.B ts with h|h|h
  ·exact qZ .b (h 32) (h 59) (h 58) (h 60)
  ·exact qZ (.u _) (h 32) (h 59) (h 58) (h 60)
  ·exact qZ (.a _) (h 32) (h 59) (h 58) (h 60)
 |d s=>exact qZ (.a (ts++[.c (ma s.B)])) af af af af
 |c=>exact qZ (.c ts) af af af af
 |p a=>
  have b:∀c,aM c 61=aw->aM c 62=aw->tZ ax a ts c=(match aM a 58 with
   |true=>aq
   |false=>gw ax c (ts++[cQ.a [a]])):=λc g e=>by
   unfold tZ;refine aA g ?_;rw [e,hH];rfl
  revert b;cases aM a 58 with
  |true=>exact λb=>qZ .b (b 32 af af) (b 59 af af) (b 58 af af) (b 60 af af)
  |false=>exact λb=>qZ (.a _) (b 32 af af) (b 59 af af) (b 58 af af) (b 60 af af)
 |u=>exact qZ (.u ts) af af af af
 |v=>exact qZ (.v ts) af af af af
 |x=>exact qZ (.a (ts++[.b [120]])) af af af af
def rn (a b:Tx):Prop:=∀q r,go ax q a=ah r->go ax q b=ah r
theorem nJ (j:L7 c=ax)(i:L7 d=ax)(h:∀f,Kd f->(f c).J (λq=>go ax q a)=(f d).J λq=>go ax q b):rn (c::a) (d::b):=by
 intro q r g;refine bf (aaH q.1 q.2) λf k e=>?_;have g:(Aw ax q.1 q.2 c).J (λq=>go ax q a)=ah r:=g;show (Aw ax q.1 q.2 d).J (λq=>go ax q b)=ah r;rw [e c j,h f k] at g;exact aA (e d i) g
theorem sm:rn [32,59] [59]:=by refine nJ af af λf h=>?_;cases h<;>rfl
theorem sm0:rn [59,32] [59,10]:=by refine nJ af af λf h=>?_;cases h<;>rfl
theorem sm1:rn [32] [32,32]:=by refine nJ af af λf h=>?_;cases h<;>rfl
theorem sm2:rn [59,32] [59,123,49,97,35,125]:=by refine nJ af af λf h=>?_;cases h<;>rfl
theorem sm3:rn [32,58,61,32] [58,61]:=by refine nJ af af λf h=>?_;cases h<;>rfl
theorem sm7:rn [32,98,101,103,105,110,32] [32,66,69,71,73,78,123,120,125]:=by refine nJ af af λf h=>?_;cases h<;>rfl
theorem sm8:rn [32,60] [60]:=by refine nJ af af λf h=>?_;cases h<;>rfl
theorem sm9:rn [32,45,32,50,59] [32,45,32,48,48,50,59]:=by refine nJ af af λf h=>?_;cases h<;>rfl
def Og (a:Tx):Prop:=∀q,go ax q a=aq
theorem Wj (b:kE c=aw)(e:∀ts,(uS c ts).J (λq=>go ax q a)=aq)(d:∀ts,(gw ax c ts).J (λq=>go ax q a)=aq)(s:Tx)(ts:ao cQ):go ax (.w s,ts) (c::a)=aq:=by
 show (zV ax s ts c).J (λq=>go ax q a)=aq;unfold zV;refine aA b ?_;show (Te ax s.B c ts).J (λq=>go ax q a)=aq;rcases Xl s.B ts with h|h|h<;>rw [h]
 ·rfl
 ·exact e _
 ·exact d _
theorem DZ {a:Tx}(b:gP c=ax)(h:eE c=aw)(l:d0 c [49,97,35]=aw)(f:∀ts,go ax (.n,ts) (c::a)=aq)(k:∀s ts,go ax (.w s,ts) (c::a)=aq)(j:∀ts,go ax (.v,ts) (c::a)=aq)(i:∀ts,go ax (.c,ts) (c::a)=aq):Og (c::a):=by
 intro q;obtain ⟨m,ts⟩:=q;have e:∀n,gP n=aw->aM c n=aw:=λn g=>b6.i λq=>by rw [aD q,g] at b;injection b
 cases m with
 |n=>exact f ts
 |w s=>exact k s ts
 |d s=>
  show (wV ax s ts c).J (λq=>go ax q a)=aq;unfold wV;refine aA h (aA b ?_);rfl
 |c=>exact i ts
 |p x=>
  show (tZ ax x ts c).J (λq=>go ax q a)=aq;unfold tZ;refine aA (e 61 af) ?_;rw [e 62 af,hH];show (match aM x 58 with
   |true=>aq
   |false=>gw ax c (ts++[cQ.a [x]])).J (λq=>go ax q a)=aq
  cases aM x 58
  ·exact f _
  ·rfl
 |u=>
  show (uS c ts).J (λq=>go ax q a)=aq;unfold uS;refine aA (Gw b).1 (aA (e 40 af) ?_);rfl
 |v=>exact j ts
 |x=>
  show (LW ts c).J (λq=>go ax q a)=aq;unfold LW kE;refine aA b ?_;rfl
theorem no4:Og [120,32,58,32,105,110,116,101,103,101,114,59,32,121]:=DZ af af af (λz=>af) (λs a=>Wj (c:=32) af (λz=>af) (λz=>af) (120::s) a) (λz=>af) (λz=>af)
theorem Sy (h:∀ts,go ax (.v,ts) a=aq):Og (119::114::105::116::101::40::a):=DZ af af af (λts=>h _) (λs ts=>by
  cases s with
  |nil=>exact h _
  |cons x s=>rfl) (λts=>h _) (λz=>af)
theorem no6:Og [119,114,105,116,101,40,121]:=Sy λz=>af
theorem nox:Og [119,114,105,116,101,40,120,41]:=Sy λz=>af
theorem noi:Og [111,102,32,105,110,116,101,103,101,114,59]:=DZ af af af (λz=>af) (λs a=>Wj (c:=32) af (λz=>af) (λz=>af) (102::111::s) a) (λz=>af) (λz=>af)
theorem noe:Og [101,110,100,46]:=DZ af af af (λz=>af) (λs a=>Wj (c:=46) af (λz=>af) (λz=>af) (100::110::101::s) a) (λz=>af) (λz=>af)
theorem nop:Og [112,114,111,103,114,97,109,32,116,57,59]:=DZ af af af (λz=>af) (λz z=>af) (λz=>af) (λz=>af)
theorem sm5:rn [119,114,105,116,101,40] [87,82,73,84,69,32,40,32]:=by
 intro q r g;obtain ⟨m,a⟩:=q;cases m with
 |w s=>
  cases s with
  |nil=>exact g
  |cons x s=>injection g
 |p x=>
  have k:∀c,aM c 61=aw->aM c 62=aw->tZ ax x a c=(match aM x 58 with
   |true=>aq
   |false=>gw ax c (a++[cQ.a [x]])):=λc d b=>by
   unfold tZ;refine aA d ?_;rw [b,hH];rfl
  have g:(tZ ax x a 119).J (λq=>go ax q [114,105,116,101,40])=ah r:=g;show (tZ ax x a 87).J (λq=>go ax q [82,73,84,69,32,40,32])=ah r;rw [k 119 af af] at g;refine aA (k 87 af af) ?_;revert g;cases aM x 58
  ·exact id
  ·exact id
 |_=>first|exact g|cases g
noncomputable def er:Md->Md
 |.u=>.n
 |.v=>.n
 |.x=>.w [120]
 |m=>m
theorem bw {q:Sx}(h:gw ax c ts=ah q):gw aw c ts=ah (er q.1,q.2):=by
 unfold gw at h ⊢;revert h;cases Yo c with
 |b=>
  intro h;have h:(match aM c 46 with
   |true=>aq
   |false=>ah (Md.n,ts++[cQ.a [c]]))=ah q:=h
  cases a:aM c 46 with
  |true=>rw [a] at h;injection h
  |false=>rw [a] at h;injection h with h;subst h;rfl
 |a=>intro h;injection h
 |_=>intro h;injection h with h;subst h;rfl
theorem LI {q:Sx}(h:uS c ts=ah q):gw aw c ts=ah (er q.1,q.2):=by
 unfold uS at h;cases b:d0 c [32,10] with
 |true=>rw [b] at h;injection h with h;subst h;unfold gw Yo;exact aA b af
 |false=>
 rw [b] at h;cases a:aM c 40 with
 |true=>rw [a] at h;injection h with h;subst h;refine aA (aD a) ?_;rfl
 |false=>rw [a] at h;injection h
theorem Q8 {q:Sx}(h:Te ax s c ts=ah q):gw aw c (ts++[FU s])=ah (er q.1,q.2):=by
 refine gl ?_;intro b;rcases Xl s ts with a|a|a<;>rw [a] at h
 ·refine gl ?_;intro b;injection h
 ·exact LI h
 ·exact bw h
theorem LV {q:Sx}(h:Aw ax m ts c=ah q):Aw aw (er m) ts c=ah (er q.1,q.2):=by
 cases m with
 |n=>exact bw h
 |w s=>
  have h:zV ax s ts c=ah q:=h;show zV aw s ts c=_;unfold zV at h ⊢;cases e:kE c with
  |true=>
   rw [e] at h;cases b:nxt s (tE c) with
   |true=>rw [b] at h;injection h with h;subst h;rfl
   |false=>rw [b] at h;injection h
  |false=>have h:=e▸h;exact Q8 h
 |d s=>
  have h:wV ax s ts c=ah q:=h;show wV aw s ts c=_;unfold wV at h ⊢;cases e:eE c with
  |true=>
   rw [e] at h;cases b:bM s.a 100 with
   |true=>rw [b] at h;injection h with h;subst h;rfl
   |false=>rw [b] at h;injection h
  |false=>
   rw [e] at h;cases b:gP c with
   |true=>have h:=b▸h;injection h
   |false=>have h:=b▸h;exact bw h
 |c=>
  have h:FX ts c=ah q:=h;show FX ts c=_;refine aA h ?_;unfold FX at h;cases e:aM c 125 with
  |true=>have h:=e▸h;injection h with h;subst h;rfl
  |false=>
   have h:=e▸h;cases b:d0 c [49,97,35,120] with
   |true=>rw [b] at h;injection h with h;subst h;rfl
   |false=>rw [b] at h;injection h
 |p a=>
  have h:tZ ax a ts c=ah q:=h;show tZ aw a ts c=_;unfold tZ at h ⊢;cases e:aM c 61||(aM a 60&&aM c 62) with
  |true=>rw [e] at h;injection h with h;subst h;rfl
  |false=>
   rw [e] at h;refine gl ?_;intro g;cases b:aM a 58 with
   |true=>have h:=b▸h;injection h
   |false=>rw [b] at h;exact bw h
 |u=>exact LI h
 |v=>
  have h:Jh ts c=ah q:=h;unfold Jh at h;cases e:d0 c [32,10] with
  |true=>
   have h:=e▸h;injection h with h;subst h;show gw aw c ts=_;unfold gw Yo;exact aA e af
  |false=>
   have h:=e▸h;cases b:d0 c [121,89,88,123] with
   |true=>have h:=b▸h;injection h
   |false=>
    have h:=b▸h;cases f:aM c 120 with
    |true=>have h:=f▸h;injection h with h;subst h;exact aA (aD f) af
    |false=>have h:=f▸h;exact bw h
 |x=>
  have h:LW ts c=ah q:=h;show zV aw [120] ts c=_;unfold LW at h;unfold zV;cases e:kE c with
  |true=>have h:=e▸h;injection h
  |false=>
   have h:=e▸h;refine gl ?_;intro g;cases b:aM c 41 with
   |true=>have h:=b▸h;injection h
   |false=>rw [b] at h;exact bw h
theorem rI:∀(T:Tx) (m:Md) (ts:ao cQ) (q:Sx),go ax (m,ts) T=ah q->go aw (er m,ts) T=ah (er q.1,q.2):=by
 intro d
 induction d with
 |nil=>
  intro m ts q h;injection h with h;subst h;rfl
 |cons c T b=>
  intro m ts q h;have h:(Aw ax m ts c).J (λq=>go ax q T)=ah q:=h;show (Aw aw (er m) ts c).J (λq=>go aw q T)=_;cases e:Aw ax m ts c with
  |none=>have h:=e▸h;injection h
  |some a=>
   rw [e] at h;exact aA (LV e) (b a.1 a.2 q h)
noncomputable def mQ (i:aB)(T:Tx):Tx:=ct (kf.l i ([],[])).1 (kf.l i ([],[])).2 T
theorem Hq (g:go ax q T=ah r):∀i,cL i 12=ax->go ax q (mQ i T)=ah r:=by
 have s:∀{a b:Tx},a≠[]->rn a b->go ax q (ct a b T)=ah r:=λd h=>Hp d h _ T (au _) _ _ g;have n:∀{a b:Tx},Og a->go ax q (ct a b T)=ah r:=λh=>by refine aA (Ho h T _ _ g) ?_;exact g
 intro i c
 match i with
 |0=>exact s (cP _ _) sm0
 |1=>exact s (cP _ _) sm1
 |2=>exact s (cP _ _) sm2
 |3=>exact s (cP _ _) sm3
 |4=>exact n no4
 |5=>exact s (cP _ _) sm5
 |6=>exact n no6
 |7=>exact s (cP _ _) sm7
 |8=>exact s (cP _ _) sm8
 |9=>exact s (cP _ _) sm9
 |10=>exact n noe
 |11=>exact n nop
 |_+12=>injection c
theorem Cp (m:aB):cU (m:aU)=(Nat.toDigits 10 m).d z8:=by
 show (Nat.repr m).u.d z8=_;exact aA Nat.toList_repr af
theorem xu {m c:aB}(h:c∈cU (m:aU)):eE c=ax:=by
 rw [Cp] at h;refine bf (iT.g h) λd b a=>?_;subst a;have r:=PyProof.Rows.digit_range (Nat.isDigit_of_mem_toDigits (aa af) (aa af) b);exact ae.i ⟨bF r.1,bF r.2⟩
theorem Rf (m:aB):ma (cU (m:aU))=m:=by
 have e:∀l:Tx,ma l=o5 l:=λl=>by
  unfold ma o5;congr 1;funext n c;rw [Nat.mul_comm]
 rw [e,Cp];exact PySem.W.KIN.val_back m
theorem uy {m:aB}(h:m<10 ^ 20):(cU (m:aU)).a<=20:=by
 rw [Cp,ay];exact PyProof.Rows.digits10_le (aa af) h
noncomputable def nP (T:Tx):Tx:=ct [32,32] [32] T
noncomputable def Ju (c:aB):bC:=d0 c [32,59,41,93,44,91,40]
theorem Cn {P:aB->Prop}(i:P 32)(g:P 59)(f:P 41)(e:P 93)(d:P 44)(b:P 91)(a:P 40):∀c,Ju c=ax->P c:=by
 intro c h;rcases aZ.g h with h|h
 ·refine aA (aD h) ?_;exact i
 rcases aZ.g h with h|h
 ·refine aA (aD h) ?_;exact g
 rcases aZ.g h with h|h
 ·refine aA (aD h) ?_;exact f
 rcases aZ.g h with h|h
 ·refine aA (aD h) ?_;exact e
 rcases aZ.g h with h|h
 ·refine aA (aD h) ?_;exact d
 rcases aZ.g h with h|h
 ·refine aA (aD h) ?_;exact b
 rcases aZ.g h with h|h
 ·refine aA (aD h) ?_;exact a
 injection h
structure Pc (p:Tx)(tk:ao cQ):Prop where
 y:∀ts,∃st,go ax (.n,ts) p=ah st/\∀c,Ju c=ax->Aw ax st.1 st.2 c=gw ax c (ts++tk)
 w:∃c r,p=c::r/\aM 32 c=aw
 o:∀v,nP (p++v)=p++nP v
section
variable {p q:Tx}{tk tk':ao cQ}
theorem vF {c:aB}{v:Tx}(h:aM 32 c=aw):nP (32::c::v)=32::nP (c::v):=iW (by
 show (ax&&(aM 32 c&&ax))=aw;refine aA h ?_;rfl)
theorem vG {c:aB}{v:Tx}(h:aM 32 c=aw):nP (c::v)=c::nP v:=iW (by
 show (aM 32 c&&_)=aw;refine aA h ?_;rfl)
theorem Nt (v:Tx):nP (32::32::v)=32::nP v:=af
theorem Pc.A (h:Pc p tk)(b:Ju c=ax)(g:(gw ax c (ts++tk)).J (λq=>go ax q v)=r):go ax (.n,ts) (p++c::v)=r:=by
 refine bf (h.y ts) λa e d=>?_;rw [yX];refine aA e ?_;show (Aw ax a.1 a.2 c).J _=r;exact aA (d c b) g
theorem Pc.n (h:Pc p tk)(a:Pc q tk'):Pc (p++32::q) (tk++tk'):=by
 refine l6 a.w λc r e j=>?_;refine ⟨λf=>?_,?_,λv=>?_⟩
 ·refine bf (a.y (f++tk)) λg k b=>?_;rw [ag] at b;exact bQ g (h.A af k) b
 ·refine l6 h.w λd s l i=>?_;exact fF d (s++32::q) (by refine aA l ?_;rfl) i
 ·rw [ag,h.o,ag];refine aW (p++·) ?_;have:=a.o v;rw [e] at this ⊢;exact (vF j).b (aW (32::·) this)
noncomputable def ZS (c:aB):bC:=d0 c [91,40,44,59,41,93,45]
theorem P0 (c:aB)(h:ZS c=ax):aM 32 c=aw/\∀ts,gw ax c ts=ah (.n,ts++[.a [c]]):=by
 revert c h;refine λc h=>?_
 iterate 7 (rcases aZ.g h with h|h; · exact aA (aD h) ⟨af,λz=>af⟩)
 refine gl ?_;intro a;injection h
theorem Pc.E (h:ZS c=ax):Pc [c] [.a [c]]:=by
 obtain ⟨a,b⟩:=P0 c h;refine ⟨λd=>bQ (.n,d++[.a [c]]) ?_ (λz z=>af),fF c [] af a,λv=>vG a⟩;show (gw ax c d).J _=_;rw [b];rfl
theorem Pc.D (h:ZS c=ax)(e:Pc q tk'):Pc (c::q) (.a [c]::tk'):=by
 obtain ⟨a,b⟩:=P0 c h;refine ⟨λd=>?_,fF c q af a,λv=>(vG a).b (aW (c::·) (e.o v))⟩;refine bf (e.y (d++[.a [c]])) λg i f=>?_;rw [ag] at f;refine bQ g ?_ f;show (gw ax c d).J _=_;rw [b];exact i
theorem Pc.B (h:Pc p tk)(a:ZS c=ax)(i:Ju c=ax)(b:Pc q tk'):Pc (p++c::q) (tk++.a [c]::tk'):=by
 refine ⟨λf=>?_,?_,λv=>?_⟩
 ·refine bf ((Pc.D a b).y (f++tk)) λg k e=>?_;rw [ag] at e;exact bQ g (h.A i k) e
 ·refine l6 h.w λd s l j=>?_;exact fF d (s++c::q) (by refine aA l ?_;rfl) j
 ·rw [ag,h.o,ag];exact aW (p++·) ((vG (P0 c a).1).b (aW (c::·) (b.o v)))
theorem Pc.u (h:Pc p tk)(g:ZS c=ax)(e:Ju c=ax):Pc (p++[c]) (tk++[.a [c]]):=by
 have a:=P0 c g;refine ⟨λb=>bQ (.n,b++(tk++[.a [c]])) ?_ (λz z=>af),?_,λv=>?_⟩
 ·refine h.A e ?_;rw [a.2,← ag];rfl
 ·refine l6 h.w λd s i f=>?_;exact fF d (s++[c]) (by refine aA i ?_;rfl) f
 ·rw [ag,h.o,ag];exact aW (p++·) (vG a.1)
end
theorem Pc.t (s':Tx)(d:∀ts,go ax (.n,ts) s=ah (.w s',ts))(a:∀c ts,Te ax s'.B c ts=gw ax c (ts++[k]))(e:∃c r,s=c::r/\aM 32 c=aw)(b:∀v,nP (s++v)=s++nP v):Pc s [k]:=
 ⟨λts=>bQ _ (d ts) (Cn (a 32 ts) (a 59 ts) (a 41 ts) (a 93 ts) (a 44 ts) (a 91 ts) (a 40 ts)),e,b⟩
noncomputable def Gv:ao AV:=[.c hK,.c hU,.c yC,.c DG,.c DF]
theorem NL {P:Tx->Prop}(e:P hK)(d:P hU)(c:P yC)(b:P DG)(a:P DF)(h:cF o Gv=ax):P o:=by
 unfold Gv at h;rcases eU h with rfl|h
 ·exact e
 rcases eU h with rfl|h
 ·exact d
 rcases eU h with rfl|h
 ·exact c
 rcases eU h with rfl|h
 ·exact b
 rcases eU h with rfl|h
 ·exact a
 injection h
theorem Nw {P:Tx->Prop}(f:P [61])(e:P [60,62])(d:P [60])(c:P [60,61])(b:P [62])(a:P [62,61])(h:cF o (oy.d .c)=ax):P o:=by
 unfold oy at h;rcases eU h with rfl|h
 ·exact f
 rcases eU h with rfl|h
 ·exact e
 rcases eU h with rfl|h
 ·exact d
 rcases eU h with rfl|h
 ·exact c
 rcases eU h with rfl|h
 ·exact b
 rcases eU h with rfl|h
 ·exact a
 injection h
theorem vK (h:cF o Gv=ax):Pc o [.a o]/\cF o (oy.d .c)=aw:=
 NL (P:=λo=>Pc o [.a o]/\cF o (oy.d .c)=aw)
  ⟨⟨λa=>bQ _ af (λz z=>af),fF _ _ af af,λz=>af⟩,af⟩
  ⟨⟨λa=>bQ _ af (λz z=>af),fF _ _ af af,λz=>af⟩,af⟩
  ⟨⟨λa=>⟨_,af,λz z=>af⟩,fF _ _ af af,λz=>af⟩,af⟩
  ⟨Pc.t [_,_,_] (λz=>af) (λz z=>af) (fF _ _ af af) λz=>af,af⟩
  ⟨Pc.t [_,_,_] (λz=>af) (λz z=>af) ⟨_,_,af,af⟩ λz=>af,af⟩ h
theorem Pc.x {s:Tx}{st:ao cQ->Sx}(h:∀ts,go ax (.n,ts) s=ah (st ts))(d:∀ts c,Ju c=ax->Aw ax (st ts).1 (st ts).2 c=gw ax c (ts++[k]))(b:∃c r,s=c::r/\aM 32 c=aw)(a:∀v,nP (s++v)=s++nP v):Pc s [k]:=⟨λts=>bQ _ (h ts) (d ts),b,a⟩
theorem Xo {o:Tx}(h:cF o (oy.d .c)=ax):Pc o [.a o]:=
 Nw (P:=λo=>Pc o [.a o])
  (Pc.x (st:=λa=>(.n,a++[.a [61]])) (λz=>af) (λz z z=>af) (fF _ _ af af) λz=>af)
  (Pc.x (st:=λa=>(.n,a++[.a [60,62]])) (λz=>af) (λz z z=>af) (fF _ _ af af) λz=>af)
  (Pc.x (st:=λa=>(.p 60,a)) (λz=>af) (λz=>Cn af af af af af af af) (fF _ _ af af) λz=>af)
  (Pc.x (st:=λa=>(.n,a++[.a [60,61]])) (λz=>af) (λz z z=>af) (fF _ _ af af) λz=>af)
  (Pc.x (st:=λa=>(.p 62,a)) (λz=>af) (λz=>Cn af af af af af af af) ⟨_,_,af,af⟩ λz=>af)
  (Pc.x (st:=λa=>(.n,a++[.a [62,61]])) (λz=>af) (λz z z=>af) (fF _ _ af af) λz=>af) h
noncomputable def wj:ao AV:=[.c [120],.c [121],.c [97],.c [115],.c [113]]
theorem nK (h:cF x wj=ax):Pc x [.b x]:=by
 unfold wj at h
 iterate 5 (rcases eU h with rfl|h; · exact Pc.t [_] (λz=>af) (λz z=>af) (fF _ _ af af) λz=>af)
 injection h
theorem Xe (ts:ao cQ):∀(l s:Tx),(∀c∈l,eE c=ax)->l.a+s.a<=100->go ax (.d s,ts) l=ah (.d (l.B++s),ts):=by
 intro e
 induction e with
 |nil=>
  intro _ _ _;exact af
 |cons c l b=>
  intro s h a;have a:l.a+1+s.a<=100:=a;show (wV ax s ts c).J (λq=>go ax q l)=_;unfold wV;refine aA (h c (.head _)) ?_;rw [cK (ab (aF _ _) a),jm,ag];exact b (c::s) (λd f=>h d (.R _ f)) (ab (aV (gs l.a s.a).h) a)
theorem HU:∀(l v:Tx),(∀c∈l,eE c=ax)->nP (l++v)=l++nP v:=by
 intro b
 induction b with
 |nil=>
  intro _ _;exact af
 |cons c l a=>
  intro v h;exact (vG (b6.i λq=>by have:=h c (.head _);have this:=aD q▸this;injection this)).b (aW (c::·) (a v λd e=>h d (.R _ e)))
theorem Mr {n:aB}(h:n<10 ^ 20):Pc (cU n) [.c n]:=by
 have b:=λc=>@xu n c;have j:=uy h;have g:=Rf n;revert b j g;cases m:cU (n:aU) with
 |nil=>
  rw [Cp] at m;exact bZ (List.map_eq_nil_iff.g m) Nat.toDigits_ne_nil
 |cons d l=>
  intro b j g;have f:=b d (.head _);have i:=Gm f;refine ⟨λa=>bQ (.d (l.B++[d]),a) ?_ ?_,fF d l af (b6.i λq=>by have f:=aD q▸f;injection f),λv=>HU _ v b⟩
  ·show (gw ax d a).J (λq=>go ax q l)=_;unfold gw Yo;refine aA i.1 (aA i.2.1 (aA i.2.2 (aA f ?_)));exact Xe a l [d] (λc o=>b c (.R _ o)) (ab j (aa af))
  ·have e:ma (l.B++[d]).B=n:=by
    refine aA List.reverse_append ?_;rw [List.reverse_reverse];exact g
   have k:∀c,eE c=aw->gP c=aw->wV ax (l.B++[d]) a c=gw ax c (a++[.c n]):=λc r p=>by
    unfold wV;exact aA r (aA p (aA e af))
   exact Cn (k 32 af af) (k 59 af af) (k 41 af af) (k 93 af af) (k 44 af af) (k 91 af af) (k 40 af af)
noncomputable def Mu (b:bC)(s:ao cQ):ao cQ:=match b with
 |true=>[.a [40]]++s++[.a [41]]
 |false=>s
noncomputable def c5 (l:aB):Ex->ao cQ
 |.h n=>[.c n]
 |.g x=>[.b x]
 |.k x e=>[.b x]++.a [91]::c5 1 e++[.a [93]]
 |.m e=>.a [45]::c5 3 e
 |.l e=>[.a rZ]++.a [40]::c5 1 e++[.a [41]]
 |.c o a b=>match cF o (oy.d .c) with
  |true=>c5 1 a++([.a o]++c5 1 b)
  |false=>Mu (cL (iB o) l) (c5 (iB o) a++([.a o]++c5 (iB o+1) b))
noncomputable def CG:Ex->bC
 |.h n=>bg (n<10 ^ 20)
 |.g x=>cF x wj
 |.k x e=>cF x wj&&CG e
 |.m e=>CG e
 |.l _=>aw
 |.c o a b=>cF o Gv&&(CG a&&CG b)
noncomputable def VF:Ex->bC
 |.l e=>CG e
 |.c o a b=>cF o (oy.d .c)&&(CG a&&CG b)
 |_=>aw
theorem MF (g:Pc a d)(e:Pc o [k])(f:Pc b c):Pc (rF a o b) (d++([k]++c)):=by
 have:=g.n (e.n f);unfold rF;rw [ag,ag,ag];exact this
theorem qc:∀(e:Ex),CG e=ax->∀l,Pc (d7 l e) (c5 l e):=by
 intro e
 induction e with
 |h n=>exact λh z=>Mr (aX h)
 |g x=>exact λh z=>nK h
 |k x e d=>
  intro h l;have h:=ae.g h;show Pc (x++[91]++d7 1 e++[93]) _;rw [ag x];exact ((nK h.1).B af af (d h.2 1)).u af af
 |m e d=>exact λh l=>Pc.D af (d h 3)
 |l e d=>exact λh=>aR h
 |c o a b g f=>
  intro h l;have h:=ae.g h;have i:=ae.g h.2;have m:=λp r=>MF (g i.1 p) (vK h.1).1 (f i.2 r);unfold d7 c5;refine aA (vK h.1).2 ?_;show Pc (rY (cL (iB o) l) _) (Mu (cL (iB o) l) _);cases cL (iB o) l with
  |true=>exact (Pc.D (c:=40) af (m _ _)).u af af
  |false=>exact m _ _
theorem pQ:∀(e:Ex),VF e=ax->Pc (d7 1 e) (c5 1 e)
 |.l e,h=>(((Pc.t [_,_,_] (λz=>af) (λz z=>af) (fF _ _ af af) λz=>af:Pc rZ [.a rZ])).B (c:=40) af af (qc e h 1)).u af af
 |.c o a b,h=>by
  have h:=ae.g h;have d:=ae.g h.2;unfold d7 c5;exact aA h.1 (MF (qc a d.1 1) (Xo h.1) (qc b d.2 1))
noncomputable def ko:Ex->aB
 |.h _=>1
 |.g _=>1
 |.k _ e=>ko e+1
 |.m e=>ko e+1
 |.l e=>ko e
 |.c _ a b=>vV (ko a) (ko b)+1
noncomputable def szE (e:Ex):bC:=bM (ko e) 12&&(bM (r5 e) 300&&bM e.q 30)
noncomputable def zk (e:Ex):bC:=CG e&&szE e
noncomputable def Lz (e:Ex):bC:=VF e&&szE e
theorem zk.a (h:zk e=ax):CG e=ax:=(ae.g h).1
theorem zk.d (h:zk e=ax):ko e<=12:=aa (ae.g (ae.g h).2).1
theorem Lz.c (h:Lz e=ax):VF e=ax:=(ae.g h).1
theorem Lz.d (h:Lz e=ax):ko e<=12:=aa (ae.g (ae.g h).2).1
def H9 (p:Tx)(tk:ao cQ):Prop:=(p=[]/\tk=[])\/Pc p tk
section
variable {p q r:Tx}{tk tk' tk'':ao cQ}
theorem Pc.m (h:Pc p tk):bT p []=aw:=by
 refine l6 h.w λc r e z=>?_;exact aA e af
theorem ja (h:bT p []=aw)(a:bT q []=aw):jT [p,q]=p++32::q:=by
 unfold jT;refine aA ef (aA h (aA ef (aA a ?_)));exact ag _ _ _
theorem pO (h:bT p []=aw):jT [p,[]]=p:=by
 unfold jT;refine aA ef (aA h ?_);rfl
theorem MT (h:Pc p tk)(a:H9 q tk'):Pc (jT [p,q]) (tk++tk'):=by
 rcases a with ⟨rfl,rfl⟩|a
 ·refine aA (pO h.m) ?_;rw [bD];exact h
 ·refine aA (ja h.m a.m) ?_;exact h.n a
theorem pP (h:bT p []=aw)(ts:ao Tx):jT (p::ts)=jT [p,jT ts]:=by
 have f:∀l:ao Tx,(l.ke λt=>!bT t [])≠[]->bT (eN [32] (l.ke λt=>!bT t [])) []=aw:=λl g=>by
  cases e:l.ke λt=>!bT t [] with
  |nil=>exact bZ e g
  |cons a r=>
   have i:bT a []=aw:=by
    have:=(List.mem_filter.g (e▸dY (a:=a) (l:=r):a∈l.ke λt=>!bT t [])).2;cases d:bT a [] with
    |false=>rfl
    |true=>have this:=d▸this;injection this
   cases a with
   |nil=>injection i
   |cons c a=>
    cases r with
    |nil=>rfl
    |cons b r=>rfl
 cases e:ts.ke λt=>!bT t [] with
 |nil=>
  have:jT ts=[]:=by unfold jT;exact aA e af
  refine aA this (aA (pO h) ?_);unfold jT;exact ef▸h▸aA e af
 |cons a r=>
  refine aA (ja h (show bT (jT ts) []=aw from (f ts (e▸cP _ _)))) ?_;unfold jT;exact ef▸h▸aA e (ag _ _ _)
theorem jT3 (h:Pc p tk)(b:H9 q tk')(a:H9 r tk''):Pc (jT [p,q,r]) (tk++(tk'++tk'')):=by
 rw [pP h.m];refine MT h ?_;rcases b with ⟨rfl,rfl⟩|b
 ·rcases a with ⟨rfl,rfl⟩|a
  ·exact .C ⟨af,af⟩
  ·refine .y ?_;have e:jT [[],r]=r:=by
    unfold jT;refine aA ef (aA ef (aA a.m ?_));rfl
   refine aA e ?_;exact a
 ·exact .y (MT b a)
theorem Pc.C (h:Pc p tk)(a:Pc q tk'):Pc (p++sR++q) (tk++([.a rX]++tk')):=by
 rw [ag];exact h.n ((show Pc [58,61] [.a rX] from ⟨λb=>bQ _ af (λz z=>af),fF _ _ af af,λz=>af⟩).n a)
end
theorem pIf:Pc zm [.a zm]:=Pc.t _ (λz=>af) (λz z=>af) (fF _ _ af af) λz=>af
theorem Mx:Pc oN [.a oN]:=Pc.t _ (λz=>af) (λz z=>af) (fF _ _ af af) λz=>af
theorem SX:Pc gq [.a gq]:=Pc.t _ (λz=>af) (λz z=>af) (fF _ _ af af) λz=>af
theorem Mv:Pc oj [.a oj]:=Pc.t _ (λz=>af) (λz z=>af) (fF _ _ af af) λz=>af
theorem pDo:Pc Ha [.a Ha]:=Pc.t _ (λz=>af) (λz z=>af) (fF _ _ af af) λz=>af
theorem Hy:Pc jZ [.a jZ]:=Pc.t _ (λz=>af) (λz z=>af) (fF _ _ af af) λz=>af
theorem Mw:Pc oi [.a oi]:=Pc.t _ (λz=>af) (λz z=>af) (fF _ _ af af) λz=>af
theorem aat:Pc qp [.a qp]:=Pc.t _ (λz=>af) (λz z=>af) (fF _ _ af af) λz=>af
theorem yT:Pc fQ [.a fQ]:=Pc.t _ (λz=>af) (λz z=>af) (fF _ _ af af) λz=>af
theorem Mz:Pc iQ [.a iQ]:=Pc.t _ (λz=>af) (λz z=>af) (fF _ _ af af) λz=>af
noncomputable def PA (up:bC):cQ:=.a (match up with
 |true=>ZE
 |false=>tT)
theorem Pc.F (up:bC)(h:Pc p tk)(a:Pc q tk'):Pc (p++DD up++q) (tk++([PA up]++tk')):=by
 rw [ag];cases up with
 |true=>exact h.n ((Pc.t _ (λz=>af) (λz z=>af) (fF _ _ af af) λz=>af:Pc ZE [.a ZE]).n a)
 |false=>exact h.n ((Pc.t _ (λz=>af) (λz z=>af) (fF _ _ af af) λz=>af:Pc tT [.a tT]).n a)
noncomputable def bl1:Tx->bC
 |[]=>aw
 |d::_=>aM d 32
noncomputable def VG (c:aB)(r:Tx):bC:=match aM c 120 with
 |true=>bl1 r
 |false=>!(d0 c [32,10]||d0 c [121,89,88,123])
noncomputable def EG:Tx->bC
 |[]=>aw
 |c::r=>VG c r
theorem adv:∀{p:Tx},EG p=ax->go ax (.v,ts) (p++v)=go ax (.n,ts) (p++v):=by
 intro a
 induction a with
 |nil=>
  intro h;injection h
 |cons c r b=>
  intro h;have h:VG c r=ax:=h;unfold VG at h;cases e:aM c 120 with
  |true=>
   rw [e] at h;refine aA (aD e) ?_;cases r with
   |nil=>injection h
   |cons d r=>
    exact aA (aD (show aM d 32=ax from h)) af
  |false=>
   rw [e] at h;have h:=bN.g ((jh.g (show (!(d0 c [32,10]||d0 c [121,89,88,123]))=ax from h)));show (Jh ts c).J _=(gw ax c ts).J _;unfold Jh;exact aA h.1 (aA h.2 (aA e af))
theorem Mq (h:Pc p tk)(d:EG p=ax):Pc ([119,114,105,116,101,40]++p++[41]) ([.a iN,.a [40]]++(tk++[.a [41]])):=by
 have e:=h.u (c:=41) af af;refine ⟨λa=>?_,fF 119 _ af af,λv=>?_⟩
 ·refine bf (e.y (a++[.a iN]++[.a [40]])) λb i g=>?_;refine bQ b ?_ (λc f=>by refine aA (g c f) ?_;rw [ag,ag];rfl);rw [ag,yX];exact (adv d).b i
 ·have:=e.o v;rw [ag] at this ⊢;exact aW ([119,114,105,116,101,40]++·) this
noncomputable def vm:Ex->ao Ex->ao cQ
 |a,[]=>c5 1 a
 |a,b::c=>(c5 1 a++[.a [44]])++vm b c
mutual
noncomputable def fG:St->ao cQ
 |.iS=>[]
 |.U x e=>[.b x]++([.a rX]++c5 1 e)
 |.iR x i e=>([.b x]++.a [91]::c5 1 i++[.a [93]])++([.a rX]++c5 1 e)
 |.ip x d=>(match d with
  |[]=>[.b x]
  |a::d=>[.b x]++.a [40]::vm a d++[.a [41]])
 |.uF c a=>([.a zm]++c5 1 c++[.a oN])++fG a
 |.uE c a b=>(([.a zm]++c5 1 c++[.a oN])++fG a)++([.a gq]++fG b)
 |.wt c a=>([.a oj]++c5 1 c++[.a Ha])++fG a
 |.wu s c=>[.a jZ]++(qT s++([.a oi]++c5 1 c))
 |.ti x a b f s=>(([.a qp]++[.b x]++([.a rX]++c5 1 a)++([PA f]++c5 1 b))++[.a Ha])++fG s
 |.vM s=>[.a fQ]++(qT s++[.a iQ])
 |.R e=>[.a iN,.a [40]]++(c5 1 e++[.a [41]])
 |.nh s=>[]
 |.E s r=>[]
noncomputable def qT:St->ao cQ
 |.nh s=>fG s
 |.E s r=>fG s++.a [59]::qT r
 |_=>[]
end
noncomputable def Xh:St->bC
 |.iS=>ax
 |.U ..=>ax
 |.iR ..=>ax
 |.ip ..=>ax
 |.R ..=>ax
 |_=>aw
mutual
noncomputable def Hb:St->bC
 |.iS=>ax
 |.U x e=>cF x wj&&zk e
 |.iR x i e=>cF x wj&&(zk i&&zk e)
 |.ip x d=>cF x wj&&(bM d.a 100&&d.oG zk)
 |.uF c a=>Lz c&&Hb a
 |.uE c a b=>Lz c&&(Xh a&&(Hb a&&Hb b))
 |.wt c a=>Lz c&&Hb a
 |.wu s c=>VE s&&Lz c
 |.ti x a b _ s=>cF x wj&&(zk a&&(zk b&&Hb s))
 |.vM s=>VE s
 |.R e=>zk e&&EG (d7 1 e)
 |.nh s=>aw
 |.E s r=>aw
noncomputable def VE:St->bC
 |.nh s=>Hb s
 |.E s r=>Hb s&&VE r
 |_=>aw
end
theorem RA:∀(as:ao Ex) (a:Ex),zk a=ax->as.oG zk=ax->Pc (eN [44,32] ((a::as).d (d7 1))) (vm a as):=by
 intro f
 induction f with
 |nil=>
  intro a h _;exact qc a (zk.a h) 1
 |cons b as e=>
  intro a h d;have d:=ae.g d;have:=((qc a (zk.a h) 1).u (c:=44) af af).n (e b d.1 d.2);show Pc (d7 1 a++[44,32]++eN [44,32] ((b::as).d (d7 1))) _;rw [ag] at this ⊢;exact this
theorem Hh:∀s:St,(Hb s=ax->H9 (fq s) (fG s))/\(VE s=ax->(∀d tk,H9 d tk->Pc (q7 d s) (tk++.a [59]::qT s))/\H9 (sT s) (qT s)):=by
 intro s
 induction s with
 |iS=>exact ⟨λz=>.C ⟨af,af⟩,λh=>aR h⟩
 |U x e=>
  refine ⟨λh=>.y ?_,λh=>aR h⟩;have h:=ae.g h;exact (nK h.1).C (qc e (zk.a h.2) 1)
 |iR x i e=>
  refine ⟨λh=>.y ?_,λh=>aR h⟩;have h:=ae.g h;have j:=ae.g h.2;have:=(((nK h.1).B (c:=91) af af (qc i (zk.a j.1) 1)).u (c:=93) af af).C (qc e (zk.a j.2) 1);show Pc (x++[91]++d7 1 i++[93]++sR++d7 1 e) _;rw [ag x];exact this
 |ip x n=>
  refine ⟨λh=>.y ?_,λh=>aR h⟩;have h:=ae.g h;cases n with
  |nil=>exact nK h.1
  |cons a n=>
   have j:=ae.g (ae.g h.2).2;show Pc (x++[40]++eN [44,32] ((a::n).d (d7 1))++[41]) _;rw [ag x];exact ((nK h.1).B (c:=40) af af (RA n a j.1 j.2)).u af af
 |uF c a g=>
  refine ⟨λh=>.y ?_,λh=>aR h⟩;have h:=ae.g h;exact MT ((pIf.n (pQ c (Lz.c h.1))).n Mx) (g.1 h.2)
 |uE c a b g p=>
  refine ⟨λh=>.y ?_,λh=>aR h⟩;have h:=ae.g h;have j:=ae.g (ae.g h.2).2;exact jT3 (MT ((pIf.n (pQ c (Lz.c h.1))).n Mx) (g.1 j.1)) (.y SX) (p.1 j.2)
 |wt c a g=>
  refine ⟨λh=>.y ?_,λh=>aR h⟩;have h:=ae.g h;exact MT ((Mv.n (pQ c (Lz.c h.1))).n pDo) (g.1 h.2)
 |wu s c k=>
  refine ⟨λh=>.y ?_,λh=>aR h⟩;have h:=ae.g h;exact jT3 Hy (k.2 h.1).2 (.y (Mw.n (pQ c (Lz.c h.2))))
 |ti x a b t s k=>
  refine ⟨λh=>.y ?_,λh=>aR h⟩;have h:=ae.g h;have j:=ae.g h.2;have q:=ae.g j.2;exact MT ((Pc.F t ((aat.n (nK h.1)).C (qc a (zk.a j.1) 1)) (qc b (zk.a q.1) 1)).n pDo) (k.1 q.2)
 |vM s k=>exact ⟨λh=>.y (jT3 yT (k.2 h).2 (.y Mz)),λh=>aR h⟩
 |R e=>
  refine ⟨λh=>.y ?_,λh=>aR h⟩;have h:=ae.g h;exact Mq (qc e (zk.a h.1) 1) h.2
 |nh s k=>
  refine ⟨λh=>aR h,λh=>⟨λd tk l=>?_,k.1 h⟩⟩;have:Pc (d++[59]) (tk++[.a [59]]):=by
   rcases l with ⟨rfl,rfl⟩|l
   ·exact Pc.E af
   ·exact l.u af af
  have:=MT this (k.1 h);rw [ag] at this;exact this
 |E s r m o=>
  refine ⟨λh=>aR h,λh=>?_⟩;have h:=ae.g h;have f:=(o.2 h.2).1;refine ⟨λd tk l=>?_,.y (f _ _ (m.1 h.1))⟩;have:Pc (d++[59]) (tk++[.a [59]]):=by
   rcases l with ⟨rfl,rfl⟩|l
   ·exact Pc.E af
   ·exact l.u af af
  have:=f _ _ (.y (MT this (m.1 h.1)));rw [ag,ag] at this;exact this
theorem oR (h:kW p k=aw):kC p a (g+1) e (k::rest)=.e (e,k::rest):=by
 cases k with
 |a w=>
  show (match p w with
   |true=>(a rest).g λq=>kC p a g (.c w e q.1) q.2
   |false=>.e (e,.a w::rest))=_
  exact aA (show p w=aw from h) af
 |_=>rfl
theorem B8 (h:p w=ax):kC p a (g+1) e (.a w::rest)=(a rest).g λq=>kC p a g (.c w e q.1) q.2:=by
 show (match p w with
   |true=>(a rest).g λq=>kC p a g (.c w e q.1) q.2
   |false=>.e (e,.a w::rest))=_
 exact aA h af
structure RT (d:aB)(e:Ex):Prop where
 o:∀k rest,k.d oO=aw->dM d (c5 3 e++k::rest)=.e (e,k::rest)
 n:∃g,gC<=g+ko e/\∀k rest,k.d oO=aw->oP (dM d) (c5 2 e++k::rest)=kC kX (dM d) g e (k::rest)
 q:∃g,gC<=g+ko e/\∀k rest,k.d oO=aw->kW kX k=aw->lp (dM d) (c5 1 e++k::rest)=kC q4 (oP (dM d)) g e (k::rest)
theorem ur (h:gC<=g+m)(a:m<=12):∃g',g=g'+1/\gC<=g'+(m+1):=by
 cases g with
 |zero=>exact bZ (ab h (ab (aV (dJ m)) a)) (by decide)
 |succ g=>exact bQ g af (ab h (aV (gs g m)))
section
variable {d:aB}{e:Ex}
theorem RT.r (h:RT d e)(b:ko e<=12)(j:k.d oO=aw)(i:kW kX k=aw):oP (dM d) (c5 2 e++k::rest)=.e (e,k::rest):=by
 refine bf h.n λg c f=>?_;refine bf (ur c b) λg a z=>?_;subst a;exact aA (f k rest j) (aA (oR i) af)
theorem RT.p (h:RT d e)(b:ko e<=12)(l:k.d oO=aw)(j:kW kX k=aw)(i:kW q4 k=aw):lp (dM d) (c5 1 e++k::rest)=.e (e,k::rest):=by
 refine bf h.q λg c f=>?_;refine bf (ur c b) λg a z=>?_;subst a;exact aA (f k rest l j) (aA (oR i) af)
theorem RT.m (b:ko e<=12)(c:c5 2 e=c5 3 e)(i:c5 1 e=c5 3 e)(f:∀k rest,k.d oO=aw->dM d (c5 3 e++k::rest)=.e (e,k::rest)):RT d e:=by
 have h:∀k rest,k.d oO=aw->oP (dM d) (c5 2 e++k::rest)=kC kX (dM d) gC e (k::rest):=λk rest a=>by
  refine aA c ?_;show (dM d _).g _=_;refine aA (f k rest a) ?_;rfl
 refine ⟨f,bQ gC (ak _ _) h,bQ gC (ak _ _) (λk rest a b=>?_)⟩;show (oP (dM d) _).g _=_;exact i▸c▸h k rest a▸(show kC kX (dM d) gC e (k::rest)=.e (e,k::rest) from oR (g:=399) b)▸af
theorem Ms (h:lp (dM d) (ts++.a [41]::rest)=.e (e,.a [41]::rest)):dM (d+1) (.a [40]::(ts++.a [41]::rest))=.e (e,rest):=by
 show (lp (dM d) (ts++.a [41]::rest)).g (λq=>ek mP q.2 λr=>R.e (q.1,r))=_;exact aA h af
end
theorem H5 (h:cF o Gv=ax):(iB o=1/\q4 o=ax/\kX o=aw/\cQ.d oO (.a o)=aw)\/(iB o=2/\kX o=ax/\cQ.d oO (.a o)=aw):=
 NL (P:=λo=>(iB o=1/\q4 o=ax/\kX o=aw/\cQ.d oO (.a o)=aw)\/(iB o=2/\kX o=ax/\cQ.d oO (.a o)=aw)) (.C (fK af af af af)) (.C (fK af af af af)) (.y (dX af af af)) (.y (dX af af af)) (.y (dX af af af)) h
theorem aa0:∀(e:Ex),CG e=ax->ko e<=12->∀d,ko e<=d->RT d e:=by
 intro e
 induction e with
 |h n=>
  intro _ i d p;refine oE p λd _=>?_;exact .m i af af λ_ _ _=>af
 |g x=>
  intro _ i d p;refine oE p λd _=>?_;refine .m i af af λk c m=>?_;show jy oO (k::c) (λr=>(lp (dM d) r).g λq=>ek Jf q.2 λr=>R.e (Ex.k x q.1,r)) (R.e (Ex.g x,k::c))=_;exact aA (rE m) af
 |k x e L=>
  intro h i d p;have h:=ae.g h;obtain ⟨d,rfl⟩:=rJ (ab (aF 1 _) p);refine .m i af af λk c m=>?_;show dM (d+1) (([.b x]++.a [91]::c5 1 e++[.a [93]])++k::c)=_;rw [ag];show (lp (dM d) (c5 1 e++.a [93]::k::c)).g (λq=>ek Jf q.2 λr=>R.e (Ex.k x q.1,r))=_;refine aA ((L h.2 (aT i) d (aY p)).p (aT i) af af af) ?_;rfl
 |m e L=>
  intro h i d p;refine oE p λd p=>?_;refine .m i af af λk c m=>?_;show (dM d (c5 3 e++k::c)).g (λq=>R.e (Ex.m q.1,q.2))=_;refine aA ((L h (aT i) d p).o k c m) ?_;rfl
 |l e L=>exact λh=>aR h
 |c o a b C B=>
  intro h i;have h:=ae.g h;have M:=ae.g h.2;have V:ko a+1<=ko (.c o a b):=az (da _ _);have O:=aT (ab V i);have N:=aT (ab (az (cJ _ _)) i);have y:∀l,c5 l (.c o a b)=Mu (cL (iB o) l) (c5 (iB o) a++([.a o]++c5 (iB o+1) b)):=λl=>by
   show (match cF o (oy.d .c) with
    |true=>c5 1 a++([cQ.a o]++c5 1 b)
    |false=>Mu (cL (iB o) l) (c5 (iB o) a++([cQ.a o]++c5 (iB o+1) b)))=_
   exact aA (vK h.1).2 af
  have s:∀{d g:aB} {ts:ao cQ},gC<=g+ko a->∃G,g=G+1/\gC<=G+ko (.c o a b):=λv=>by
   refine bf (ur v O) λG e q=>?_;exact bQ G e (ab q (ar V G))
  have Y:∀d,ko a<=d->ko b<=d->∃g,gC<=g+ko (.c o a b)/\∀k c,k.d oO=aw->kW kX k=aw->lp (dM d) (c5 1 (.c o a b)++k::c)=kC q4 (oP (dM d)) g (.c o a b) (k::c):=by
   intro d I H;have J:=C M.1 O d I;have T:=B M.2 N d H;refine gl ?_;intro P;rcases H5 h.1 with ⟨w,A,z,W⟩|⟨w,A,z⟩
   ·obtain ⟨g,v,f⟩:=J.q;obtain ⟨g,rfl,u⟩:=s (d:=d) (ts:=[]) v;refine bQ g u (λk c m t=>?_);rw [y];refine aA w ?_;show lp (dM d) ((c5 1 a++([.a o]++c5 2 b))++k::c)=_;rw [ag,ag];show lp (dM d) (c5 1 a++.a o::(c5 2 b++k::c))=_;refine aA (f _ _ W z) (aA (B8 A) (aA (T.r N m t) ?_));rfl
   ·obtain ⟨g,v,f⟩:=J.n;refine bf (s (d:=d) (ts:=[]) v) λg j u=>?_;subst j;refine bf (ur u i) λF j _=>?_;subst j;refine bQ gC (ak _ _) (λk c m t=>?_);rw [y];refine aA w ?_;show (oP (dM d) ((c5 2 a++([.a o]++c5 3 b))++k::c)).g _=_;rw [ag,ag];show (oP (dM d) (c5 2 a++.a o::(c5 3 b++k::c))).g _=_;refine aA (f _ _ z) (aA (B8 A) (aA (T.o k c m) ?_));show (kC kX (dM d) (F+1) (.c o a b) (k::c)).g _=_;refine aA (oR t) ?_;rfl
  intro d p;refine oE p λd D=>?_;have I:ko a<=d:=ab (da _ _) D;have H:ko b<=d:=ab (cJ _ _) D;have X:∀k c,k.d oO=aw->dM (d+1) (([.a [40]]++(c5 (iB o) a++([.a o]++c5 (iB o+1) b))++[.a [41]])++k::c)=.e (.c o a b,k::c):=λk c m=>by
   refine bf (Y d I H) λg v f=>?_;refine bf (ur v i) λg j _=>?_;subst j;have l1:cL (iB o) 1=aw:=by rcases H5 h.1 with q|q<;>rw [q.1]<;>rfl
   have e:=f (.a [41]) (k::c) af af;rw [oR (g:=g) af,y,l1] at e;rw [ag];exact Ms e
  have l3:cL (iB o) 3=ax:=by rcases H5 h.1 with q|q<;>rw [q.1]<;>rfl
  have Z:c5 3 (.c o a b)=[.a [40]]++(c5 (iB o) a++([.a o]++c5 (iB o+1) b))++[.a [41]]:=by rw [y];refine aA l3 ?_;rfl
  refine ⟨aA Z X,?_,Y (d+1) (b7 I) (b7 H)⟩;refine gl ?_;intro P;rcases H5 h.1 with ⟨w,A,z,W⟩|⟨w,A,z⟩
  ·refine bQ gC (ak _ _) (λk c m=>?_);have t2:c5 2 (.c o a b)=[.a [40]]++(c5 (iB o) a++([.a o]++c5 (iB o+1) b))++[.a [41]]:=by rw [y];refine aA (show cL (iB o) 2=ax by rw [w];rfl) ?_;rfl
   refine aA t2 ?_;show (dM (d+1) _).g _=_;refine aA (X k c m) ?_;rfl
  ·have J:=C M.1 O (d+1) (b7 I);refine gl ?_;intro P;refine bf J.n λg v f=>?_;refine gl ?_;intro P;refine bf (s (d:=d) (ts:=[]) v) λg j u=>?_;subst j;refine bQ g u (λk c m=>?_);rw [y];refine aA w ?_;show oP (dM (d+1)) ((c5 2 a++([.a o]++c5 3 b))++k::c)=_;rw [ag,ag];show oP (dM (d+1)) (c5 2 a++.a o::(c5 3 b++k::c))=_;refine aA (f _ _ z) (aA (B8 A) (aA ((B M.2 N (d+1) (b7 H)).o k c m) ?_));rfl
noncomputable def SG (k:cQ):bC:=!(k.d oO||(kW kX k||kW q4 k))
theorem L3 (h:SG k=ax):k.d oO=aw/\kW kX k=aw/\kW q4 k=aw:=by
 have h:=bN.g (jh.g (show (!(k.d oO||(kW kX k||kW q4 k)))=ax from h));have a:=bN.g h.2;exact dX h.1 a.1 a.2
theorem xq (h:CG e=ax)(b:ko e<=12)(a:SG k=ax):gW (c5 1 e++k::rest)=.e (e,k::rest):=
 (aa0 e h b 12 b).p b (L3 a).1 (L3 a).2.1 (L3 a).2.2
theorem LN:∀(e:Ex),CG e=ax->∀l,∃k r,c5 l e=k::r/\k.d rZ=aw:=by
 intro e
 induction e with
 |h n=>exact λz z=>fF _ _ af af
 |g x=>exact λz z=>fF _ _ af af
 |k x e d=>exact λz z=>fF _ _ af af
 |m e d=>exact λz z=>fF _ _ af af
 |l e d=>exact λh=>aR h
 |c o a b c f=>
  intro h l;have h:=ae.g h;unfold c5;refine aA (vK h.1).2 ?_;show ∃k r,Mu (cL (iB o) l) _=k::r/\_;cases cL (iB o) l with
  |true=>exact fF _ _ af af
  |false=>
   refine l6 (c (ae.g h.2).1 (iB o)) λk r e q=>?_;exact fF k _ (by show c5 (iB o) a++_=_;refine aA e ?_;rfl) q
theorem Rp:∀{e:Ex},VF e=ax->ko e<=12->∀{k:cQ} {rest:ao cQ},SG k=ax->oQ (c5 1 e++k::rest)=.e (e,k::rest)
 |.l e,h,c,k,rest,g=>by
  show oQ (([.a rZ]++.a [40]::c5 1 e++[.a [41]])++k::rest)=_;rw [ag];show (gW (c5 1 e++.a [41]::k::rest)).g (λq=>ek mP q.2 λr=>R.e (Ex.l q.1,r))=_;refine aA (xq h c af) ?_;rfl
 |.c o a b,h,c,k,rest,g=>by
  have h:=ae.g h;have d:=ae.g h.2;have l:ko a<=12:=ab (ab (da _ _) (bh _)) c;have j:ko b<=12:=ab (ab (cJ _ _) (bh _)) c;unfold c5;refine aA h.1 ?_;show oQ ((c5 1 a++([.a o]++c5 1 b))++k::rest)=_;rw [ag,ag];refine l6 (LN a d.1 1) λf r e q=>?_;have i:=xq d.1 l (k:=.a o) (rest:=c5 1 b++k::rest) (Nw (P:=λo=>SG (.a o)=ax) af af af af af af h.1);rw [e] at i;refine aA e ?_;show jy rZ (f::_) _ _=_;refine aA (rE q) ?_;show (gW (f::r++.a o::(c5 1 b++k::rest))).g _=_;refine aA i ?_;show (match AM o with
   |true=>(gW (c5 1 b++k::rest)).g λb=>R.e (Ex.c o a b.1,b.2)
   |false=>.i)=_
  exact (show AM o=ax from h.1)▸xq d.2 j g▸af
theorem sv (h:zk e=ax)(a:SG k=ax):gW (c5 1 e++k::rest)=.e (e,k::rest):=xq (zk.a h) (zk.d h) a
theorem H0 (h:Lz e=ax)(a:SG k=ax):oQ (c5 1 e++k::rest)=.e (e,k::rest):=Rp (Lz.c h) (Lz.d h) a
noncomputable def ZP:cQ->bC
 |.a w=>cF w [.c [59],.c iQ,.c oi,.c gq]
 |_=>aw
theorem LR {P:cQ->Prop}(d:P (.a [59]))(c:P (.a iQ))(b:P (.a oi))(a:P (.a gq))(h:ZP k=ax):P k:=by
 cases k with
 |a w=>
  have h:cF w [.c [59],.c iQ,.c oi,.c gq]=ax:=h;rcases eU h with rfl|h
  ·exact d
  rcases eU h with rfl|h
  ·exact c
  rcases eU h with rfl|h
  ·exact b
  rcases eU h with rfl|h
  ·exact a
  injection h
 |_=>injection h
theorem LU (h:ZP k=ax):SG k=ax:=LR (P:=λk=>SG k=ax) af af af af h
noncomputable def jx:St->aB
 |.uF _ a=>jx a+1
 |.uE _ a b=>vV (jx a) (jx b)+1
 |.wt _ a=>jx a+1
 |.wu s _=>jx s+1
 |.ti _ _ _ _ s=>jx s+1
 |.vM s=>jx s+1
 |.nh s=>jx s+1
 |.E s r=>vV (jx s) (jx r)+1
 |_=>1
noncomputable def rl:St->ao St
 |.nh s=>[s]
 |.E s r=>s::rl r
 |_=>[]
theorem Eu:∀(as:ao Ex) (b:Ex) (g:aB),as.a+1<g->zk b=ax->as.oG zk=ax->kD g (.a [44]::(vm b as++.a [41]::rest))=.e (b::as,.a [41]::rest)
 |[],b,g+1,d,h,_=>by
  obtain ⟨g,rfl⟩:=rJ (lg d);show (gW (c5 1 b++.a [41]::rest)).g (λe=>(kD (g+1) e.2).g λq=>R.e (e.1::q.1,q.2))=_;refine aA (sv h af) ?_;rfl
 |a::as,b,g+1,d,h,c=>by
  have c:=ae.g c;show (gW (((c5 1 b++[.a [44]])++vm a as)++.a [41]::rest)).g (λe=>(kD g e.2).g λq=>R.e (e.1::q.1,q.2))=_;rw [ag,ag];show (gW (c5 1 b++.a [44]::(vm a as++.a [41]::rest))).g (λe=>(kD g e.2).g λq=>R.e (e.1::q.1,q.2))=_;refine aA (sv h af) ?_;show (kD g (.a [44]::(vm a as++.a [41]::rest))).g _=_;refine aA (Eu (rest:=rest) as a g (fZ d) c.1 c.2) ?_;rfl
theorem Rz (a:Ex)(as:ao Ex)(d:as.a<=100)(h:zk a=ax)(c:as.oG zk=ax):Hz (.a [40]::(vm a as++.a [41]::rest))=.e (a::as,rest):=by
 cases as with
 |nil=>
  show (gW (c5 1 a++.a [41]::rest)).g (λe=>(kD gC e.2).g λq=>ek mP q.2 λr=>R.e (e.1::q.1,r))=_;refine aA (sv h af) ?_;rfl
 |cons b as=>
  have c:=ae.g c;show (gW (((c5 1 a++[.a [44]])++vm b as)++.a [41]::rest)).g (λe=>(kD gC e.2).g λq=>ek mP q.2 λr=>R.e (e.1::q.1,r))=_;rw [ag,ag];show (gW (c5 1 a++.a [44]::(vm b as++.a [41]::rest))).g (λe=>(kD gC e.2).g λq=>ek mP q.2 λr=>R.e (e.1::q.1,r))=_;refine aA (sv h af) ?_;show (kD gC (.a [44]::(vm b as++.a [41]::rest))).g _=_;refine aA (Eu as b gC (aQ d (aa af)) c.1 c.2) ?_;rfl
theorem ZY:∀s:St,1<=jx s
 |.iS=>au _
 |.U ..=>au _
 |.iR ..=>au _
 |.ip ..=>au _
 |.R ..=>au _
 |.uF ..=>aF _ _
 |.uE ..=>aF _ _
 |.wt ..=>aF _ _
 |.wu ..=>aF _ _
 |.ti ..=>aF _ _
 |.vM ..=>aF _ _
 |.nh ..=>aF _ _
 |.E ..=>aF _ _
def SR (s:St):Prop:=∀d,jx s<=d->∀k a,ZP k=ax->(Xh s=ax\/k.d gq=aw)->dy d (fG s++k::a)=.e (s,k::a)
def RR (s:St):Prop:=∀d,jx s<=d->∀k a,ZP k=ax->k.d tS=aw->k.d gq=aw->F8 (dy d) (qT s++k::a)=.e (s,k::a)
def RL (s:St):Prop:=∀d g,jx s<=d->jx s<g->∀k a,ZP k=ax->k.d tS=aw->k.d gq=aw->iu (dy d) g (.a [59]::(qT s++k::a))=.e (rl s,k::a)
theorem SP:∀{s r:St},VE r=ax->qY s (rl r)=.E s r
 |_,.nh _,_=>af
 |s,.E x r,h=>aW (St.E s) (SP (s:=x) (ae.g h).2)
theorem DO (h:k.d tS=aw):iu st (g+1) (k::rest)=.e ([],k::rest):=by
 show jy tS (k::rest) _ _=_;exact aA (rE h) af
theorem ZM:∀s:St,(Hb s=ax->jx s<=14->SR s)/\(VE s=ax->jx s<=14->RL s/\RR s):=by
 intro s
 induction s with
 |iS=>
  refine ⟨λ_ _ d l k j m _=>?_,λh=>aR h⟩;refine oE l λd _=>?_;exact LR (P:=λk=>dy (d+1) (k::j)=.e (.iS,k::j)) af af af af m
 |U x e=>
  refine ⟨λh _ d l k j m _=>?_,λh=>aR h⟩;obtain ⟨d,rfl⟩:=rJ l;have h:=(ae.g h).2;show (gW (c5 1 e++k::j)).g (λe=>R.e (St.U x e.1,e.2))=_;refine aA (sv h (LU m)) ?_;rfl
 |iR x i e=>
  refine ⟨λh _ d l k j m _=>?_,λh=>aR h⟩;obtain ⟨d,rfl⟩:=rJ l;have h:=ae.g (ae.g h).2;show dy (d+1) ((([.b x]++.a [91]::c5 1 i++[.a [93]])++([.a rX]++c5 1 e))++k::j)=_;rw [ag,ag];show (gW (c5 1 i++.a [93]::.a rX::(c5 1 e++k::j))).g (λi=>ek Jf i.2 λr=>ek rX r λr=>(gW r).g λe=>R.e (St.iR x i.1 e.1,e.2))=_;refine aA (sv h.1 af) ?_;show (gW (c5 1 e++k::j)).g _=_;refine aA (sv h.2 (LU m)) ?_;rfl
 |ip x C=>
  refine ⟨λh _ d l k j m _=>?_,λh=>aR h⟩;obtain ⟨d,rfl⟩:=rJ l;have h:=ae.g (ae.g h).2;cases C with
  |nil=>exact LR (P:=λk=>dy (d+1) (.b x::k::j)=.e (.ip x [],k::j)) af af af af m
  |cons a C=>
   have p:=ae.g h.2;show dy (d+1) (([.b x]++.a [40]::vm a C++[.a [41]])++k::j)=_;rw [ag];show (Hz (.a [40]::(vm a C++.a [41]::k::j))).g (λq=>R.e (St.ip x q.1,q.2))=_;refine aA (Rz a C (aT (aa h.1)) p.1 p.2) ?_;rfl
 |uF c a v=>
  refine ⟨λh t d l k j m n=>?_,λh=>aR h⟩;obtain ⟨d,rfl⟩:=rJ (ab (aF 1 _) l);have h:=ae.g h;have n:k.d gq=aw:=n.Y λq=>aR q;show dy (d+1) (((([.a zm]++c5 1 c)++[.a oN])++fG a)++k::j)=_;rw [ag,ag];show (oQ (c5 1 c++.a oN::(fG a++k::j))).g (λc=>ek oN c.2 λr=>(dy d r).g λa=>jy gq a.2 (λr=>(dy d r).g λb=>R.e (St.uE c.1 a.1 b.1,b.2)) (.e (St.uF c.1 a.1,a.2)))=_;refine aA (H0 h.1 af) ?_;show (dy d (fG a++k::j)).g (λa=>jy gq a.2 (λr=>(dy d r).g λb=>R.e (St.uE c a.1 b.1,b.2)) (.e (St.uF c a.1,a.2)))=_;exact aA (v.1 h.2 (aT t) d (aY l) k j m (.y n)) (rE (rest:=j) (yes:=λr=>(dy d r).g λb=>R.e (St.uE c a b.1,b.2)) (no:=R.e (St.uF c a,k::j)) n)
 |uE c a b v H=>
  refine ⟨λh t d l k j m n=>?_,λh=>aR h⟩;obtain ⟨d,rfl⟩:=rJ (ab (aF 1 _) l);have h:=ae.g h;have p:=ae.g h.2;have I:=ae.g p.2;have n:k.d gq=aw:=n.Y λq=>aR q;have o:=bj.g (aY l);have u:=bj.g (aT t);show dy (d+1) ((((([.a zm]++c5 1 c)++[.a oN])++fG a)++([.a gq]++fG b))++k::j)=_;rw [ag,ag,ag];show (oQ (c5 1 c++.a oN::(fG a++.a gq::(fG b++k::j)))).g (λc=>ek oN c.2 λr=>(dy d r).g λa=>jy gq a.2 (λr=>(dy d r).g λb=>R.e (St.uE c.1 a.1 b.1,b.2)) (.e (St.uF c.1 a.1,a.2)))=_;refine aA (H0 h.1 af) ?_;show (dy d (fG a++.a gq::(fG b++k::j))).g (λa=>jy gq a.2 (λr=>(dy d r).g λb=>R.e (St.uE c a.1 b.1,b.2)) (.e (St.uF c a.1,a.2)))=_;refine aA (v.1 I.1 u.1 d o.1 _ _ af (.C p.1)) ?_;show (dy d (fG b++k::j)).g (λb=>R.e (St.uE c a b.1,b.2))=_;refine aA (H.1 I.2 u.2 d o.2 k j m (.y n)) ?_;rfl
 |wt c a v=>
  refine ⟨λh t d l k j m n=>?_,λh=>aR h⟩;obtain ⟨d,rfl⟩:=rJ (ab (aF 1 _) l);have h:=ae.g h;have n:k.d gq=aw:=n.Y λq=>aR q;show dy (d+1) (((([.a oj]++c5 1 c)++[.a Ha])++fG a)++k::j)=_;rw [ag,ag];show (oQ (c5 1 c++.a Ha::(fG a++k::j))).g (λc=>ek Ha c.2 λr=>(dy d r).g λa=>R.e (St.wt c.1 a.1,a.2))=_;refine aA (H0 h.1 af) ?_;show (dy d (fG a++k::j)).g (λa=>R.e (St.wt c a.1,a.2))=_;exact aA (v.1 h.2 (aT t) d (aY l) k j m (.y n)) af
 |wu s c y=>
  refine ⟨λh t d l k j m n=>?_,λh=>aR h⟩;obtain ⟨d,rfl⟩:=rJ (ab (aF 1 _) l);have h:=ae.g h;show dy (d+1) (([.a jZ]++(qT s++([.a oi]++c5 1 c)))++k::j)=_;rw [ag,ag];show (F8 (dy d) (qT s++.a oi::(c5 1 c++k::j))).g (λs=>ek oi s.2 λr=>(oQ r).g λc=>R.e (St.wu s.1 c.1,c.2))=_;refine aA ((y.2 h.1 (aT t)).2 d (aY l) _ _ af af af) ?_;show (oQ (c5 1 c++k::j)).g (λc=>R.e (St.wu s c.1,c.2))=_;refine aA (H0 h.2 (LU m)) ?_;rfl
 |ti x a b w s y=>
  refine ⟨λh t d l k j m n=>?_,λh=>aR h⟩;obtain ⟨d,rfl⟩:=rJ (ab (aF 1 _) l);have h:=ae.g (ae.g h).2;have p:=ae.g h.2;have n:k.d gq=aw:=n.Y λq=>aR q;have B:∀w,uf (dy d) x a w (c5 1 b++.a Ha::(fG s++k::j))=.e (.ti x a b w s,k::j):=λw=>by
   show (gW (c5 1 b++.a Ha::(fG s++k::j))).g (λb=>ek Ha b.2 λr=>(dy d r).g λs=>R.e (St.ti x a b.1 w s.1,s.2))=_;refine aA (sv p.1 af) ?_;show (dy d (fG s++k::j)).g (λs=>R.e (St.ti x a b w s.1,s.2))=_;refine aA (y.1 p.2 (aT t) d (aY l) k j m (.y n)) ?_;rfl
  show dy (d+1) (((((([.a qp]++[.b x])++([.a rX]++c5 1 a))++([PA w]++c5 1 b))++[.a Ha])++fG s)++k::j)=_;rw [ag,ag,ag,ag];show (gW (c5 1 a++PA w::(c5 1 b++.a Ha::(fG s++k::j)))).g (λa=>jy ZE a.2 (λr=>uf (dy d) x a.1 ax r) (ek tT a.2 λr=>uf (dy d) x a.1 aw r))=_;refine aA (sv h.1 (by cases w<;>rfl)) ?_;cases w with
  |true=>exact B ax
  |false=>exact B aw
 |vM s y=>
  refine ⟨λh t d l k j m n=>?_,λh=>aR h⟩;refine oE l λd l=>?_;show dy (d+1) (([.a fQ]++(qT s++[.a iQ]))++k::j)=_;rw [ag,ag];show (F8 (dy d) (qT s++.a iQ::k::j)).g (λs=>ek iQ s.2 λr=>R.e (St.vM s.1,r))=_;refine aA ((y.2 h (aT t)).2 d l _ _ af af af) ?_;rfl
 |R e=>
  refine ⟨λh _ d l k j m _=>?_,λh=>aR h⟩;obtain ⟨d,rfl⟩:=rJ l;have h:=(ae.g h).1;show dy (d+1) (([.a iN,.a [40]]++(c5 1 e++[.a [41]]))++k::j)=_;rw [ag,ag];show (gW (c5 1 e++.a [41]::k::j)).g (λe=>ek mP e.2 λr=>R.e (St.R e.1,r))=_;refine aA (sv h af) ?_;rfl
 |nh s y=>
  refine ⟨λh=>aR h,λh t=>?_⟩;have f:=y.1 h (aT t);refine ⟨λd g l D k j m A p=>?_,λd l k j m A p=>?_⟩
  ·obtain ⟨g,rfl⟩:=JT (ab (az (aF 1 _)) D);show (dy d (fG s++k::j)).g (λs=>(iu (dy d) (g+1) s.2).g λq=>R.e (s.1::q.1,q.2))=_;refine aA (f d (aT l) k j m (.y p)) ?_;show (iu (dy d) (g+1) (k::j)).g _=_;refine aA (DO A) ?_;rfl
  ·show (dy d (fG s++k::j)).g (λs=>(iu (dy d) gC s.2).g λq=>R.e (qY s.1 q.1,q.2))=_;refine aA (f d (aT l) k j m (.y p)) ?_;show (iu (dy d) gC (k::j)).g _=_;refine aA (show iu (dy d) gC (k::j)=.e ([],k::j) from DO (g:=399) A) ?_;rfl
 |E s r F G=>
  refine ⟨λh=>aR h,λh t=>?_⟩;have h:=ae.g h;have u:=bj.g (aT t);have f:=F.1 h.1 u.1;have J:=(G.2 h.2 u.2).1;refine ⟨λd g l D k j m A p=>?_,λd l k j m A p=>?_⟩
  ·have o:=bj.g (aT l);obtain ⟨g,rfl⟩:=rJ (ab (aF 1 _) D);show (dy d ((fG s++.a [59]::qT r)++k::j)).g (λs=>(iu (dy d) g s.2).g λq=>R.e (s.1::q.1,q.2))=_;rw [ag];show (dy d (fG s++.a [59]::(qT r++k::j))).g _=_;refine aA (f d o.1 _ _ af (.y af)) ?_;show (iu (dy d) g (.a [59]::(qT r++k::j))).g _=_;refine aA (J d g o.2 (aQ (cJ _ _) (fZ D)) k j m A p) ?_;rfl
  ·have o:=bj.g (aT l);show (dy d ((fG s++.a [59]::qT r)++k::j)).g (λs=>(iu (dy d) gC s.2).g λq=>R.e (qY s.1 q.1,q.2))=_;rw [ag];show (dy d (fG s++.a [59]::(qT r++k::j))).g _=_;refine aA (f d o.1 _ _ af (.y af)) ?_;show (iu (dy d) gC (.a [59]::(qT r++k::j))).g _=_;exact aA (J d gC o.2 (aQ u.2 (aa af)) k j m A p) (aW (λz=>R.e (z,k::j)) (SP h.2))
theorem DI:∀ts:ao Tx,(ts.d cC).sum<=(eN [32] ts).a
 |[]=>au _
 |[t]=>au _
 |t::u::ts=>by
  show t.a+((u::ts).d cC).sum<=(t++[32]++eN [32] (u::ts)).a;refine aA ai (aA ai ?_);exact aL (ak _ _) (DI (u::ts))
theorem PN:∀ts:ao Tx,(ts.d cC).sum=((ts.ke λt=>!bT t []).d cC).sum:=by
 intro b
 induction b with
 |nil=>
  exact af
 |cons t ts a=>
  have h:=a;refine aA ef ?_;cases e:bT t [] with
  |true=>
   refine aA (eA e) ?_;exact (dJ _).b h
  |false=>exact aW (t.a+·) h
theorem AL (ts:ao Tx):(ts.d cC).sum<=(jT ts).a:=by
 rw [PN];exact DI _
section
variable {T:dt}{D:aB->aJ cO}{C:fk}
def A3 (T:dt)(C:fk)(ea:E)(e:Ev)(a:Tx):Prop:=a.a<=50000->∀(c:a8) (P:QV) (X:QX),(∀b,jL c b->P (.c a) b)->ey T C ea e c P X
variable {ea eb ec:E}{e:Ev}{a b c:Tx}
theorem A3.nB (k:A3 T C ea e a)(j:A3 T C eb e b):A3 T C (.n .a ea eb) e (a++b):=by
 intro h i P X q;have h:=ai▸h;refine f7 (k (ab (ak _ _) h) i _ X λd g=>?_);exact j (ab (aF _ _) h) d _ X λc f=>⟨ab h (aa af),q c (g.gY f)⟩
theorem A3.qu (s:Tx):A3 T C (.h s) e s:=λz a z z q=>q a (jL.ig a)
theorem A3.JG (h:e i=ah (.c a)):A3 T C (.v i) e a:=λz b z z q=>aH h (q b (jL.ig b))
theorem A3.idx {k:aB}(d:e 0=ah (.f l))(c:lZ (k:aU) l.a=ah k)(h:l[k]?=ah (.c a)):A3 T C (.l (.v 0) (.d k)) e a:=λz b z z q=>aH d (b8 c (b8 h (q b (jL.ig b))))
theorem A3.ret {X:QX}(h:A3 T C ea e a)(c:a.a<=50000)(q:∀b,jL σ b->Q (.c a) b):di T C (.a (.CF ea) .b) e σ (ux Q) (λz b=>X b):=h c σ _ X q
theorem A3.j2 (K:Shw T D)(o:A3 T (bp T D (n+1)) ea e a)(m:A3 T (bp T D (n+1)) eb e b):A3 T (bp T D (n+1)) (.u 28 (.a (.z (.a ea (.a eb .b))) .b)) e (jT [a,b]):=by
 intro l k P X q;have g:=ab (AL [a,b]) l;have g:a.a+(b.a+0)<=50000:=g;refine eu (o (ab (ak _ _) g) k _ X λd i=>?_);refine m (ab (aF _ _) g) d _ X λj h=>⟨K.a 28 af af,vB K (ts:=[a,b]) af bO ?_ λc f=>q c ((i.gY h).gY ((jL.ig _).eP.gY f))⟩;exact ab (aj g 2) (aa af)
theorem A3.j3 (K:Shw T D)(u:A3 T (bp T D (n+1)) ea e a)(t:A3 T (bp T D (n+1)) eb e b)(s:A3 T (bp T D (n+1)) ec e c):A3 T (bp T D (n+1)) (.u 28 (.a (.z (.a ea (.a eb (.a ec .b)))) .b)) e (jT [a,b,c]):=by
 intro r p P X q;have g:=ab (AL [a,b,c]) r;have g:a.a+(b.a+(c.a+0))<=50000:=g;have o:=ab (aF _ _) g;refine eu (u (ab (ak _ _) g) p _ X λh l=>?_);refine t (ab (ak _ _) o) h _ X λf k=>(s (ab (aF _ _) o) f _ X λm j=>?_);refine ⟨K.a 28 af af,vB K (ts:=[a,b,c]) af bO ?_ λd i=>q d (((l.gY k).gY j).gY ((jL.ig _).eP.gY i))⟩;exact ab (aj g 3) (aa af)
theorem A3.Oh {f k n:aB}(g:T.a f=aq)(i:e 0=ah (.f l))(c:lZ (k:aU) l.a=ah k)(h:l[k]?=ah v)(d:∀(σ:a8) (P:QV) (X:QX),(∀b,jL σ b->P (.c a) b)->bp T D n f [v] σ P X):A3 T (bp T D n) (.u f (.a (.l (.v 0) (.d k)) .b)) e a:=λz σ P X q=>eu (aH i (b8 c (b8 h ⟨g,d σ P X q⟩)))
end
noncomputable def Ax (x:Ex):bC:=x.i&&(Oe x&&(bM (r5 x) 50000&&bM x.q 30))
mutual
noncomputable def L4:St->bC
 |.iS=>ax
 |.U _ e=>Ax e
 |.iR _ i e=>Ax i&&Ax e
 |.ip _ d=>bM d.a 100&&d.oG Ax
 |.uF c a=>Ax c&&L4 a
 |.uE c a b=>Ax c&&(L4 a&&L4 b)
 |.wt c a=>Ax c&&L4 a
 |.wu s c=>VY s&&Ax c
 |.ti _ a b _ s=>Ax a&&(Ax b&&L4 s)
 |.vM s=>VY s
 |.R e=>Ax e
 |.nh _=>aw
 |.E _ _=>aw
noncomputable def VY:St->bC
 |.nh s=>L4 s
 |.E s r=>L4 s&&VY r
 |_=>aw
end
section
variable {T:dt}{D:aB->aJ cO}
theorem A3.ex (K:Shw T D){n k:aB}(a:Ax x=ax)(f:30<=n)(i:e 0=ah (.f l))(g:lZ (k:aU) l.a=ah k)(h:l[k]?=ah x.d):A3 T (bp T D n) (.u 27 (.a (.l (.v 0) (.d k)) (.a (.d 1) .b))) e (d7 1 x):=by
 intro _ b P X q;have a:=ae.g a;have d:=ae.g a.2;have c:=ae.g d.2;exact eu (aH i (b8 g (b8 h ⟨K.a 27 af af,Td K x 1 n b P X a.1 d.1 (ab (aa c.1) (aa af)) (ab (aa c.2) f) (q b (jL.ig b))⟩)))
theorem Wr (K:Shw T D)(k:30<=n):∀(as:ao Ex) (σ:a8) (ys:ao AV) (Q:QX),as.oG Ax=ax->σ[r]?=ah (.a ys)->ys.a+as.a<=1000->Q (σ.w r (.a (ys++as.d λa=>.c (d7 1 a))))->Kw (bp T D n) 27 1 r (as.d Ex.d) σ Q:=by
 intro j
 induction j with
 |nil=>
  intro σ ys Q _ c _ q;have e:σ.w r (.a (ys++[]))=σ:=by
   obtain ⟨b,e⟩:=a7.g c;rw [bD];refine dw e ?_;exact List.set_getElem_self b
  exact dw e q
 |cons a as d=>
  intro σ ys Q h c b q;have h:=ae.g h;have f:=ae.g h.1;have i:=ae.g f.2;have g:=ae.g i.2;have b:ys.a+(as.a+1)<=1000:=b;refine Td K a 1 n σ _ _ f.1 i.1 (ab (aa g.1) (aa af)) (ab (aa g.2) k) (bk c ⟨?_,?_⟩)
  ·exact aQ (ab (ak _ _) b) (aa af)
  ·refine d _ (ys++[.c (d7 1 a)]) Q h.2 (eL c) ?_ ?_
   ·exact aA ai (ab (aV (bo _ _ _)) b)
   ·rw [nc,ag];exact q
end
section
variable {T:dt}{D:aB->aJ cO}
theorem rG:∀ts:ao Tx,(ts.d cC).sum<=(eN [44,32] ts).a
 |[]=>au _
 |[t]=>au _
 |t::u::ts=>by
  show t.a+((u::ts).d cC).sum<=(t++[44,32]++eN [44,32] (u::ts)).a;refine aA ai (aA ai ?_);exact aL (ak _ _) (rG (u::ts))
theorem xj (h:(jT [a,b]).a<=50000):a.a<=50000/\b.a<=50000:=by
 have g:a.a+(b.a+0)<=50000:=ab (AL [a,b]) h;exact ⟨ab (ak _ _) g,ab (aF _ _) g⟩
theorem vn (h:(jT [a,b,c]).a<=50000):a.a<=50000/\b.a<=50000/\c.a<=50000:=by
 have g:a.a+(b.a+(c.a+0))<=50000:=ab (AL [a,b,c]) h;have d:=ab (aF _ _) g;exact dX (ab (ak _ _) g) (ab (ak _ _) d) (ab (aF _ _) d)
theorem HO:∀(r:St) (a:Tx),a.a<=(q7 a r).a:=by
 have h:∀(a b:Tx),a.a<=(jT [a++[59],b]).a:=λa b=>by
  have g:(a++[59]).a+(b.a+0)<=(jT [a++[59],b]).a:=AL [a++[59],b];rw [ai] at g;exact ab (ak _ _) (ab (ak _ _) g)
 intro r
 induction r with
 |nh s=>exact λa=>h a (fq s)
 |E s r _ c=>exact λa=>ab (h a (fq s)) (c _)
 |_=>exact λa=>au _
def ShF (T:dt)(D:aB->aJ cO)(s:St):Prop:=∀n,34+2*jx s<=n->(fq s).a<=50000->∀(b:a8) (Q:QV) (X:QX),(∀a,jL b a->Q (.c (fq s)) a)->bp T D n 30 [s.K] b Q X
def ShL (T:dt)(D:aB->aJ cO)(r:St):Prop:=∀n,34+2*jx r<=n->∀(a:Tx) (e:Ev) (c:a8) (f:QF) (g:XS),e 1=ah (.c a)->(q7 a r).a<=50000->(∀d b,d 1=ah (.c (q7 a r))->jL c b->f .a d b)->jg (CX 2) (di T (bp T D n) yd) r.w2 e c f g
def ShW (T:dt)(D:aB->aJ cO)(r:St):Prop:=∀n,35+2*jx r<=n->(sT r).a<=50000->∀(b:a8) (Q:QV) (X:QX),(∀a,jL b a->Q (.c (sT r)) a)->bp T D n 29 [.f r.w2] b Q X
theorem JU (h:c+2*b<=n+1)(d:a+1<=b):c+2*a+1<=n:=by
 have:c+2*(a+1)<=n+1:=ab (ar (bP 2 d) c) h;exact aY this
theorem DP (K:Shw T D)(f:ShF T D s)(d:34+2*jx s<=n+1)(h:e 1=ah (.c b))(g:e 2=ah s.K)(c:(jT [b++[59],fq s]).a<=50000)(q:∀a,jL σ a->QQ .a (bu e 1 (.c (jT [b++[59],fq s]))) a):di T (bp T D (n+1)) yd e σ QQ XX:=by
 exact A3.j2 K (A3.nB (A3.JG h) (A3.qu [59])) (show A3 T (bp T D (n+1)) (.u 30 (.a (.v 2) .b)) e (fq s) from λc σ P X q=>eu (aH g ⟨K.a 30 af af,f _ d c σ P X q⟩)) c σ _ _ q
noncomputable abbrev e1 (l:ao AV)(k:Tx):Ev:=bu (λi=>[AV.f l][i]?) 1 (.c k)
theorem Qs (h:L4 s=ax)(q:Q aw):kT s.K Q:=by
 unfold kT;cases s with
 |nh s=>injection h
 |E s r=>injection h
 |_=>exact q
theorem P7 {a:AV}:(1:aU)<=((a::l).a:aU):=cy.i (aF 1 _)
theorem L8 (K:Shw T D){as:ao Ex}{n k:aB}(c:as.oG Ax=ax)(b:as.a<=100)(d:30<=n)(i:e 0=ah (.f l))(g:lZ (k:aU) l.a=ah k)(h:l[k]?=ah (.f (as.d Ex.d))):A3 T (bp T D n) (.t (.h [44,32]) .e (.a (.J 27 1 (.l (.v 0) (.d k))) .b)) e (eN [44,32] (as.d (d7 1))):=by
 intro f j P X q;refine aH i (b8 g (b8 h ⟨K.a 27 af af,?_⟩));refine Wr K d as _ [] _ c bO (ab (aV (dJ _)) (ab b (aa af))) ?_;refine aA t6 ?_;refine bk bO (l4 (as.d (d7 1)) ?_ ?_ (q _ (jL.ig _).eP))
 ·have:(as.d λa=>AV.c (d7 1 a))=(as.d (d7 1)).d .c:=(gR ..).h;rw [d9];refine aA this ?_;exact xi _
 ·have:=rG (as.d (d7 1));exact aA (ay (d7 1)) (ab (aL (ab this f) (jF 2 b)) (aa af))
theorem d35 (h:35+a+1<=n):34+a<=n:=ab (aj (aa af) a) (aT h)
theorem P9 (d:e 0=ah (.f (a::l)))(q:jg (CX 2) (di T C yd) l e σ (λf c b=>match f with
  |.a=>di T C (.a (.CF (.v 1)) .b) c b QQ XX
  |f=>QQ f c b) XX):di T C (.a (.DC 2 (.H (.v 0) (.c (.d 1)) .f) yd) (.a (.CF (.v 1)) .b)) e σ QQ XX:=aH d (dX (by decide) P7 q)
theorem Mc (K:Shw T D)(i:∀(σ:a8) (P:QV) (X:QX),(∀b,jL σ b->P (.c t) b)->bp T D n 30 [a] σ P X)(h:∀(e:Ev) (σ:a8) (QQ:QF) (XX:XS),e 1=ah (.c t)->(∀f b,f 1=ah (.c u)->jL σ b->QQ .a f b)->jg (CX 2) (di T (bp T D n) yd) l e σ QQ XX)(σ:a8)(Q:QV)(X:QX)(q:∀b,jL σ b->Q (.c u) b):bp T D (n+1) 29 [.f (a::l)] σ Q X:=by
 refine bU K.p af ?_;intro r o m k;refine cE (eu (b8 (jb (p:=0) (eY l.a)) ?_));refine ⟨K.a 30 af af,i σ _ X λc d=>?_⟩;exact P9 (a:=a) (l:=l) af (h _ c _ _ af λf b j g=>aH j (q b (d.gY g)))
theorem Ef (h:di T C b (bu e i x) σ (λf c a=>match f with
   |.a|.d=>jg (CX i) (di T C b) l c a QQ XX
   |.c=>QQ .a c a
   |.b v=>QQ (.b v) c a) XX):jg (CX i) (di T C b) (x::l) e σ QQ XX:=h
theorem Qt (i:Ex)(q:Q aw):kT i.d Q:=by
 unfold kT;cases i<;>exact q
set_option maxHeartbeats 2000000 in
theorem PX (K:Shw T D):∀s:St,(L4 s=ax->ShF T D s)/\(VY s=ax->ShL T D s/\ShW T D s):=by
 have B:∀{m n:aB},34+m<=n->1<=n:=λd=>ab (ab (aa af) (ak 34 _)) d;have A:∀{m n:aB},34+m<=n->2<=n:=λd=>ab (ab (aa af) (ak 34 _)) d;have j:∀{m n:aB},34+m<=n+1->30<=n:=λd=>aY (ab (ab (aa af) (ak 34 _)) d);intro s
 induction s with
 |iS=>
  refine ⟨λ_ n d _ g Q X q=>?_,λh=>aR h⟩;refine oE d λn _=>?_;exact bU K.h af (q g (jL.ig g))
 |U x e=>
  refine ⟨λh n d f g Q X q=>?_,λh=>aR h⟩;obtain ⟨n,rfl⟩:=rJ (B d);refine bU K.h af (mU ?_);exact A3.nB (e:=bu (e1 [.c yM,.c x,.h,e.d] yM) 2 (.c x)) (A3.nB (A3.JG (i:=2) af) (A3.qu sR)) (A3.ex K (k:=3) (l:=[.c yM,.c x,.h,e.d]) h (j d) af af af) f g _ _ q
 |iR x i e=>
  refine ⟨λh n d f g Q X q=>?_,λh=>aR h⟩;obtain ⟨n,rfl⟩:=rJ (B d);have h:=ae.g h;have M:(x++[91]++d7 1 i++[93]++sR++d7 1 e).a<=50000:=f;have w:(x++[91]++d7 1 i++[93]).a<=50000:=by
   rw [ai,ai (bs:=sR)] at M;exact ab (ab (ak _ _) (ak _ _)) M
  refine bU K.h af (Qt i ?_);exact A3.nB (e:=bu (e1 [.c yM,.c x,i.d,e.d] yM) 2 (.c x)) (A3.nB (A3.nB (A3.JG (i:=2) af) (A3.qu [91])) (A3.ex K (k:=2) (l:=[.c yM,.c x,i.d,e.d]) h.1 (j d) af af af)) (A3.qu [93]) w g _ _ λo p=>(A3.nB (e:=bu (bu (e1 [.c yM,.c x,i.d,e.d] yM) 2 (.c x)) 2 (.c (x++[91]++d7 1 i++[93]))) (A3.nB (A3.JG (i:=2) af) (A3.qu sR)) (A3.ex K (k:=3) (l:=[.c yM,.c x,i.d,e.d]) h.2 (j d) af af af) f o _ _ λt u=>q t (p.gY u))
 |ip x O=>
  refine ⟨λh n d f g Q X q=>?_,λh=>aR h⟩;obtain ⟨n,rfl⟩:=rJ (B d);have h:=ae.g h;cases O with
  |nil=>exact bU K.h af (q g (jL.ig g))
  |cons a O=>
   refine bU K.h af ?_;intro J I H G;refine A3.nB (e:=(e1 [.c Ay,.c x,.f ((a::O).d Ex.d)] Ay)) (A3.nB (A3.nB (A3.idx (k:=1) (l:=[.c Ay,.c x,.f ((a::O).d Ex.d)]) af af af) (A3.qu [40])) (L8 K h.2 (aa h.1) (j d) (k:=2) (l:=[.c Ay,.c x,.f ((a::O).d Ex.d)]) af af af)) (A3.qu [41]) f g _ _ q
 |uF c a v=>
  refine ⟨λh n d f g Q X q=>?_,λh=>aR h⟩;obtain ⟨n,rfl⟩:=JT (A d);have h:=ae.g h;have N:=v.1 h.2 _ (aT (JU d (au _))) (xj f).2;refine bU K.h af ?_;intro J I H G;exact A3.j2 K (e:=(e1 [.c zm,c.d,a.K,.h] zm)) (A3.nB (A3.nB (A3.qu DH) (A3.ex K (k:=1) (l:=[.c zm,c.d,a.K,.h]) h.1 (j d) af af af)) (A3.qu yG)) (A3.Oh (k:=2) (l:=[.c zm,c.d,a.K,.h]) (K.a 30 af af) af af af N) f g _ _ λo p=>(mU (q o p))
 |uE c a b v ihb=>
  refine ⟨λh n d f g Q X q=>?_,λh=>aR h⟩;obtain ⟨n,rfl⟩:=JT (A d);have h:=ae.g h;have z:=ae.g h.2;have l3:=vn f;have N:=v.1 z.1 _ (aT (JU d (az (da _ _)))) (xj l3.1).2;refine bU K.h af ?_;intro J I H G;refine A3.j2 K (e:=(e1 [.c zm,c.d,a.K,b.K] zm)) (A3.nB (A3.nB (A3.qu DH) (A3.ex K (k:=1) (l:=[.c zm,c.d,a.K,b.K]) h.1 (j d) af af af)) (A3.qu yG)) (A3.Oh (k:=2) (l:=[.c zm,c.d,a.K,b.K]) (K.a 30 af af) af af af N) l3.1 g _ _ λo p=>(Qs z.2 ?_);exact A3.j3 K (e:=bu (e1 [.c zm,c.d,a.K,b.K] zm) 3 (.c (jT [DH++d7 1 c++yG,fq a]))) (A3.JG (i:=3) af) (A3.qu gq) (A3.Oh (k:=3) (l:=[.c zm,c.d,a.K,b.K]) (K.a 30 af af) af af af (ihb.1 z.2 _ (aT (JU d (az (cJ _ _)))) l3.2.2)) f o _ _ λt u=>q t (p.gY u)
 |wt c a v=>
  refine ⟨λh n d f g Q X q=>?_,λh=>aR h⟩;obtain ⟨n,rfl⟩:=JT (A d);have h:=ae.g h;have N:=v.1 h.2 _ (aT (JU d (au _))) (xj f).2;refine l4 Uz K.h af ?_;exact A3.j2 K (e:=(e1 [.c oj,c.d,a.K] oj)) (A3.nB (A3.nB (A3.qu [119,104,105,108,101,32]) (A3.ex K (k:=1) (l:=[.c oj,c.d,a.K]) h.1 (j d) af af af)) (A3.qu [32,100,111])) (A3.Oh (k:=2) (l:=[.c oj,c.d,a.K]) (K.a 30 af af) af af af N) f g _ _ q
 |wu s c y=>
  refine ⟨λh n d f g Q X q=>?_,λh=>aR h⟩;obtain ⟨n,rfl⟩:=JT (A d);have h:=ae.g h;have W:=(y.2 h.1).2 (n+1) (ab (aV (bo 34 1 _)) (JU d (au _))) (vn f).2.1;refine bU K.h af ?_;intro J I H G;exact A3.j3 K (e:=(e1 [.c jZ,.f s.w2,c.d] jZ)) (A3.qu jZ) (A3.Oh (k:=1) (l:=[.c jZ,.f s.w2,c.d]) (K.a 29 af af) af af af W) (A3.nB (A3.qu [117,110,116,105,108,32]) (A3.ex K (k:=2) (l:=[.c jZ,.f s.w2,c.d]) h.2 (j d) af af af)) f g _ _ q
 |ti x a b up s y=>
  refine ⟨λh n d f g Q X q=>?_,λh=>aR h⟩;obtain ⟨n,rfl⟩:=JT (A d);have w:=ae.g h;have z:=ae.g w.2;have W:=y.1 z.2 _ (aT (JU d (au _))) (xj f).2;refine ⟨Uz,K.h,af,?_⟩;cases up with
  |true=>exact A3.j2 K (e:=(bu (bu (e1 [.c qp,.c x,a.d,b.d,.g ax,s.K] qp) 4 (.c (DD aw))) 4 (.c (DD ax)))) (A3.nB (A3.nB (A3.nB (A3.nB (A3.nB (A3.nB (A3.qu [102,111,114,32]) (A3.idx (k:=1) (l:=[.c qp,.c x,a.d,b.d,.g ax,s.K]) af af af)) (A3.qu sR)) (A3.ex K (k:=2) (l:=[.c qp,.c x,a.d,b.d,.g ax,s.K]) w.1 (j d) af af af)) (A3.JG (i:=4) af)) (A3.ex K (k:=3) (l:=[.c qp,.c x,a.d,b.d,.g ax,s.K]) z.1 (j d) af af af)) (A3.qu [32,100,111])) (A3.Oh (k:=5) (l:=[.c qp,.c x,a.d,b.d,.g ax,s.K]) (K.a 30 af af) af af af W) f g _ _ q
  |false=>exact A3.j2 K (e:=(bu (e1 [.c qp,.c x,a.d,b.d,.g aw,s.K] qp) 4 (.c (DD aw)))) (A3.nB (A3.nB (A3.nB (A3.nB (A3.nB (A3.nB (A3.qu [102,111,114,32]) (A3.idx (k:=1) (l:=[.c qp,.c x,a.d,b.d,.g aw,s.K]) af af af)) (A3.qu sR)) (A3.ex K (k:=2) (l:=[.c qp,.c x,a.d,b.d,.g aw,s.K]) w.1 (j d) af af af)) (A3.JG (i:=4) af)) (A3.ex K (k:=3) (l:=[.c qp,.c x,a.d,b.d,.g aw,s.K]) z.1 (j d) af af af)) (A3.qu [32,100,111])) (A3.Oh (k:=5) (l:=[.c qp,.c x,a.d,b.d,.g aw,s.K]) (K.a 30 af af) af af af W) f g _ _ q
 |vM s y=>
  refine ⟨λh n d f g Q X q=>?_,λh=>aR h⟩;obtain ⟨n,rfl⟩:=JT (A d);refine bU K.h af ?_;intro J I H G;exact A3.j3 K (e:=(e1 [.c fQ,.f s.w2] fQ)) (A3.qu fQ) (A3.Oh (k:=1) (l:=[.c fQ,.f s.w2]) (K.a 29 af af) af af af ((y.2 h).2 (n+1) (ab (aV (bo 34 1 _)) (JU d (au _))) (vn f).2.1)) (A3.qu iQ) f g _ _ q
 |R e=>
  refine ⟨λh n d f g Q X q=>?_,λh=>aR h⟩;obtain ⟨n,rfl⟩:=rJ (B d);refine bU K.h af ?_;intro J I H G;exact A3.nB (e:=(e1 [.c iN,e.d] iN)) (A3.nB (A3.qu [119,114,105,116,101,40]) (A3.ex K (k:=1) (l:=[.c iN,e.d]) h (j d) af af af)) (A3.qu [41]) f g _ _ q
 |nh s y=>
  refine ⟨λh=>aR h,λh=>⟨λn d acc e g V P w f q=>?_,λn d f g Q X q=>?_⟩⟩
  ·obtain ⟨n,rfl⟩:=rJ (B d);have hs:34+2*jx s<=n+1:=ab (ar (bP 2 (bh _)) 34) d;exact Ef (DP K (y.1 h) hs w af f λF Z=>q _ _ af Z)
  ·obtain ⟨n,rfl⟩:=rJ (ab (ab (by decide) (ak 35 _)) d);exact Mc K (l:=[]) (y.1 h n (d35 (JU d (au _))) f) (λe g V P he q=>q e g he (jL.ig g)) g Q X q
 |E s r L ihr=>
  refine ⟨λh=>aR h,λh=>?_⟩;have h:=ae.g h;have fr:=(ihr.2 h.2).1;refine ⟨λn d acc e g V P w f q=>?_,λn d f g Q X q=>?_⟩
  ·obtain ⟨n,rfl⟩:=rJ (B d);have hr:34+2*jx r<=n+1:=ab (ar (bP 2 (ab (cJ _ _) (bh _))) 34) d;refine Ef (DP K (L.1 h.1) (ab (ar (bP 2 (ab (da _ _) (bh _))) 34) d) w af (ab (HO r _) f) λF Z=>?_);exact fr _ hr _ _ F V P af f λe' C h' Y=>q e' C h' (Z.gY Y)
  ·obtain ⟨n,rfl⟩:=rJ (ab (ab (by decide) (ak 35 _)) d);exact Mc K (L.1 h.1 n (d35 (JU d (az (da _ _)))) (ab (HO r _) f)) (λe g V P he q=>fr n (d35 (JU d (az (cJ _ _)))) (fq s) e g V P he f q) g Q X q
end
noncomputable def ZJ:Tx:=[32,58,32,105,110,116,101,103,101,114,59]
noncomputable def FW:Tx:=[32,58,32,97,114,114,97,121,32,91]
noncomputable def VN:Tx:=[93,32,111,102,32,105,110,116,101,103,101,114,59]
noncomputable def tV:Tx:=[112,114,111,99,101,100,117,114,101,32]
noncomputable def vT:Tx×aJ aB->Tx
 |(x,aq)=>x++ZJ
 |(x,ah n)=>x++FW++cU n++VN
noncomputable def vu:Tx×bC->Tx
 |(x,ax)=>[118,97,114,32]++x
 |(x,aw)=>x
noncomputable def AO (x:Tx):ao (Tx×bC)->Tx
 |[]=>tV++x
 |p::q=>tV++x++[40]++eN [44,32] ((p::q).d vu)++[41]
noncomputable def BI:ao (Tx×aJ aB)->ao Tx
 |[]=>[]
 |_::_=>[BH]
mutual
noncomputable def NF:Bl->Tx
 |.e a c b=>jT (BI a++a.d vT++jK c++[fQ,sT b,iQ])
 |.h=>[]
 |.g ..=>[]
noncomputable def jK:Bl->ao Tx
 |.g x q b r=>(AO x q++[59,32]++NF b++[59])::jK r
 |_=>[]
end
noncomputable def ZL:Tx×aJ aB->bC
 |(_,aq)=>ax
 |(_,ah n)=>bg (n<2 ^ 100)
mutual
noncomputable def shB:Bl->bC
 |.e a c b=>bM a.a 100&&(a.oG ZL&&(Yj 100 c&&VY b))
 |.h=>aw
 |.g ..=>aw
noncomputable def Yj:aB->Bl->bC
 |k+1,.g _ q b r=>bM q.a 100&&(shB b&&Yj k r)
 |_,.h=>ax
 |_,_=>aw
end
noncomputable def w1:Bl->aB
 |.e _ c a=>vV (w1 c) (jx a)+1
 |.h=>0
 |.g _ _ b r=>vV (w1 b) (w1 r)
section
variable {T:dt}{D:aB->aJ cO}{C:fk}{e:Ev}{σ:a8}{QQ:QF}{XX:XS}
theorem vI (h:e k=ah (.e o))(c:σ[o]?=ah (.a l))(g:l.a<10000)(d:A3 T C i e t)(f:t.a<=50000)(q:∀a,jL σ a->QQ .a e (a.w o (.a (l++[.c t])))):di T C (.a (.oM (.t (.v k) .a (.a i .b))) .b) e σ QQ XX:=by
 refine aH h (bk c ?_);exact d f σ _ _ λa b=>(bk (b.wB c) ⟨cH g (aa af),q a b⟩)
theorem um {a b:Type}{l:ao a}{f:a->b}(h:l.a<m):(l.d f).a<m:=by rw [ay];exact h
theorem BL (a:ao Tx)(t:Tx):a.d AV.c++[.c t]=(a++[t]).d AV.c:=by refine aA cw ?_;rfl
theorem vC (g:aM vs.a c.a=ax)(h:di T C b (uV e c vs) σ (λf d a=>match f with
   |.a|.d=>jg (CW c) (di T C b) l d a QQ XX
   |.c=>QQ .a d a
   |.b v=>QQ (.b v) d a) XX):jg (CW c) (di T C b) (.f vs::l) e σ QQ XX:=by
 show sP (aM vs.a c.a) _;exact aA g h
theorem ifv (h:e i=ah (.g b))(c:b=ax->di T C x e σ QQ XX)(a:b=aw->di T C y e σ QQ XX):di T C (.a (.vj (.v i) x y) .b) e σ QQ XX:=aH h (fE c a)
theorem Gd (h:a+(b+1)<=m):a+1+b<=m:=ab (aV (gs a b)) h
theorem Aq:∀(vs:ao (Tx×aJ aB)) (c:ao Tx) (e:Ev) (σ:a8),e 1=ah (.e o)->σ[o]?=ah (.a (c.d .c))->c.a+vs.a<=1000->vs.oG ZL=ax->(∀t∈vs.d vT,t.a<=50000)->
  (∀p d,(∀i,i≠2->i≠3->p i=e i)->d[o]?=ah (.a ((c++vs.d vT).d .c))->fR o σ d->QQ .a p d)->jg (CW [2,3]) (di T C KC) (vs.d Au) e σ QQ XX
 |[],c,e,σ,m,j,_,_,_,q=>q e σ (λ_ _ _=>af) (by refine aA qy ?_;rw [bD];exact j) (fR.oW o σ)
 |(x,z)::vs,c,e,σ,m,j,f,l,A,q=>by
  have l:=ae.g l;have f:c.a+(vs.a+1)<=1000:=f;have y:c.a<10000:=aQ (ab (ak _ _) f) (aa af);have w:(vT (x,z)).a<=50000:=A _ (.head _);have next:∀d,jL σ d->jg (CW [2,3]) (di T C KC) (vs.d Au) (uV e [2,3] [.c x,Ga z]) (d.w o (.a (c.d .c++[.c (vT (x,z))]))) QQ XX:=λd r=>by
   refine (Aq vs (c++[vT (x,z)]) _ _ m ?_ ?_ l.2 (λt h=>A t (.R _ h)) λp g v u s=>?_)
   ·rw [BL];exact eL (r.wB j)
   ·exact aA ai (Gd f)
   ·refine q p g (λi a b=>(v i a b).b ?_) ?_ ?_
    ·exact (dG i b).b (dG i a)
    ·refine aA u ?_;rw [ag];rfl
    ·exact fR.cq ⟨by refine aA bX ?_;exact r.1,λi B f=>aA (bA (gJ B)) (aA (r.2 i f) af)⟩ s
  refine vC af ?_;cases z with
  |none=>
   refine gd ?_;intro D;exact mU (vI (k:=1) (e:=uV e [2,3] [.c x,Ga aq]) m j (um y) (A3.nB (A3.JG (i:=2) af) (A3.qu ZJ)) w next)
  |some n=>
   exact sV (vI (k:=1) (e:=uV e [2,3] [.c x,Ga (ah n)]) m j (um y) (A3.nB (A3.nB (A3.nB (A3.JG (i:=2) af) (A3.qu FW)) (λ_ σ P X q=>⟨aX l.1,q σ (jL.ig σ)⟩)) (A3.qu VN)) w next)
theorem AD:∀(qs:ao (Tx×bC)) (c:ao Tx) (e:Ev) (σ:a8),e 6=ah (.e o)->σ[o]?=ah (.a (c.d .c))->c.a+qs.a<=1000->(∀t∈qs.d vu,t.a<=50000)->
  (∀n d,(∀i,i≠7->i≠8->n i=e i)->d[o]?=ah (.a ((c++qs.d vu).d .c))->fR o σ d->QQ .a n d)->jg (CW [7,8]) (di T C KG) (qs.d xl) e σ QQ XX
 |[],c,e,σ,m,j,_,_,q=>q e σ (λ_ _ _=>af) (by refine aA qy ?_;rw [bD];exact j) (fR.oW o σ)
 |(x,z)::r,c,e,σ,m,j,f,A,q=>by
  have f:c.a+(r.a+1)<=1000:=f;have y:c.a<10000:=aQ (ab (ak _ _) f) (aa af);have l:(vu (x,z)).a<=50000:=A _ (.head _);have next:∀d,jL σ d->jg (CW [7,8]) (di T C KG) (r.d xl) (uV e [7,8] [.c x,.g z]) (d.w o (.a (c.d .c++[.c (vu (x,z))]))) QQ XX:=λd p=>by
   refine (AD r (c++[vu (x,z)]) _ _ m ?_ ?_ (λt h=>A t (.R _ h)) λn g w v u=>?_)
   ·rw [BL];exact eL (p.wB j)
   ·exact aA ai (Gd f)
   ·refine q n g (λi a b=>(w i a b).b ?_) ?_ ?_
    ·exact (dG i b).b (dG i a)
    ·refine aA v ?_;rw [ag];rfl
    ·exact fR.cq ⟨by refine aA bX ?_;exact p.1,λi B f=>aA (bA (gJ B)) (aA (p.2 i f) af)⟩ u
  refine vC af (ifv (i:=8) (b:=z) af (λs=>?_) λs=>?_)
  ·rw [s] at next l ⊢
   exact vI (k:=6) (e:=uV e [7,8] [.c x,.g ax]) m j (um y) (A3.nB (A3.qu [118,97,114,32]) (A3.JG (i:=7) af)) l next
  ·rw [s] at next l ⊢
   exact vI (k:=6) (e:=uV e [7,8] [.c x,.g aw]) m j (um y) (A3.JG (i:=7) af) l next
end
section
variable {T:dt}{D:aB->aJ cO}{C:fk}{e:Ev}{σ:a8}{QQ:QF}{XX:XS}
noncomputable abbrev Cr (T:dt)(C:fk)(s:S)(r:Ss)(QQ:QF)(XX:XS):QF:=λf b a=>match f with
 |.a=>di T C (.a s r) b a QQ XX
 |f=>QQ f b a
theorem D5 (q:di T C (.a s r) (bu e i (.e σ.a)) (σ++[.a []]) QQ XX):di T C (.a (.rA i (.z .b)) (.a s r)) e σ QQ XX:=q
theorem Nd (h:e i=ah (.f l))(q:jg (CW a) (di T C b) l e σ (Cr T C s r QQ XX) XX):di T C (.a (.FL a (.v i) b) (.a s r)) e σ QQ XX:=aH h q
theorem aaO (h:e i=ah (.e w))(c:σ[w]?=ah (.a l))(f:l=[]->di T C (.a s r) e σ QQ XX)(d:l≠[]->di T C a e σ (Cr T C s r QQ XX) XX):di T C (.a (.vj (.q .b (.r .a (.a (.v i) .b)) (.d 0)) a .b) (.a s r)) e σ QQ XX:=by
 refine aH h (bk c ?_);refine fE (b:=bg ((l.a:aU)>0)) (λq=>d ?_) λq=>f ?_
 ·intro z;have q:=z▸q;exact bZ (aX q) (by decide)
 ·cases l with
  |nil=>rfl
  |cons a l=>exact bZ (cM.i (eY l.a)) (cV q)
theorem HC {ts:ao Tx}(h:t∈ts):t.a<=(ts.d cC).sum:=by
 induction h with
 |head=>exact ak _ _
 |tail _ _ a=>exact ab a (aF _ _)
theorem Jn (X:∀e:Ev,e 5=ah b->A3 T C (.u 31 (.a (.v 5) .b)) e t)(H:qs.a<=100)(h1:e 1=ah (.e o))(Z:e 2=ah (.c x))(Y:e 4=ah (.f (qs.d xl)))(I:e 5=ah b)(V:σ[o]?=ah (.a s))(W:s.a<10000)(A:(AO x qs++[59,32]++t++[59]).a<=50000)
  (q:∀f d,f 0=e 0->f 1=e 1->jL σ d->QQ .a f (d.w o (.a (s++[.c (AO x qs++[59,32]++t++[59])])))):di T C KD e σ QQ XX:=by
 have h:(AO x qs).a<=50000:=by
  rw [ai,ai,ai] at A;exact ab (ab (ak _ _) (ak _ _)) (ab (ak _ _) A)
 have r:∀(f:Ev) (d:a8),f 0=e 0->f 1=e 1->f 5=ah b->f 9=ah (.c (AO x qs))->jL σ d->di T C (.a (.oM (.t (.v 1) .a (.a (.n .a (.n .a (.n .a (.v 9) (.h [59,32])) (.u 31 (.a (.v 5) .b))) (.h [59])) .b))) .b) f d QQ XX:=λf d a0 J a5 a9 F=>
  vI (J.b h1) (F.wB V) W (A3.nB (A3.nB (A3.nB (A3.JG a9) (A3.qu [59,32])) (X f a5)) (A3.qu [59])) A λm y=>q f m a0 J (F.gY y)
 refine D5 (Nd (e:=bu e 6 _) (i:=4) Y ?_);have P:∀u∈qs.d vu,u.a<=50000:=by
  intro u N;have O:((qs.d vu).d cC).sum<=50000:=by
   cases qs with
   |nil=>exact bG _
   |cons p qs=>
    have h:(tV++x++[40]++eN [44,32] ((p::qs).d vu)++[41]).a<=50000:=h;rw [ai,ai (bs:=eN _ _)] at h;exact ab (ab (rG _) (aF _ _)) (ab (ak _ _) h)
  exact ab (HC N) O
 refine AD qs [] (bu e 6 (.e σ.a)) (σ++[.a []]) af bO (ab (aV (dJ _)) (ab H (aa af))) P λa g l k n=>?_;have j:jL σ g:=fR.ext (jL.ig σ).eP (au _) n;have E:∀i,i<6->a i=e i:=λi D=>(l i (b5 (cH D (aa af))) (b5 (cH D (aa af)))).b (dG i (b5 D));have L:a 6=ah (.e σ.a):=l 6 (by decide) (by decide);have M:(tV++x).a<=50000:=by
  refine gl ?_;intro g9;cases qs with
  |nil=>exact h
  |cons p qs=>
   have h:(tV++x++[40]++eN [44,32] ((p::qs).d vu)++[41]).a<=50000:=h;rw [ai,ai (bs:=eN _ _),ai (bs:=[40])] at h;exact ab (ab (ak _ _) (ak _ _)) (ab (ak _ _) h)
 refine cE (A3.nB (A3.qu tV) (A3.JG ((E 2 (aa af)).b Z)) M g _ _ λw c=>?_);refine aaO (e:=bu a 9 _) (i:=6) L (c.wB k) (λB=>?_) λB=>?_
 ·cases qs with
  |nil=>exact r _ _ (E 0 (by decide)) (E 1 (by decide)) ((E 5 (by decide)).b I) af (j.gY c)
  |cons p qs=>injection B
 ·cases qs with
  |nil=>exact bZ af B
  |cons p qs=>
   have z:=(show (tV++x++[40]++eN [44,32] ((p::qs).d vu)++[41]).a<=50000 from h);rw [ai] at z;have v:(tV++x++[40]++eN [44,32] ((p::qs).d vu)).a<=50000:=ab (ak _ _) z;rw [ai] at v;have G:(tV++x++[40]).a<=50000:=ab (ak _ _) v;rw [ai] at G;refine mq ?_;intro q9;refine gd ?_;intro e9;refine f7 (f7 (f7 ⟨ab G (by decide),?_⟩));refine aH (e:=bu a 9 _) (i:=6) L (bk (c.wB k) (l4 ((p::qs).d vu) (xi _) ?_ ?_))
   ·rw [ay];exact ab (aL (ab (rG _) (ab (aF _ _) v)) (jF 2 H)) (aa af)
   ·refine dX (ab v (by decide)) (ab z (by decide)) ?_;exact r (bu (bu a 9 _) 9 _) _ (E 0 (by decide)) (E 1 (by decide)) ((E 5 (by decide)).b I) af (j.gY c)
def BlF (T:dt)(D:aB->aJ cO)(b:Bl):Prop:=∀n,40+2*w1 b<=n->(NF b).a<=50000->∀(σ:a8) (Q:QV) (X:QX),(∀a,jL σ a->Q (.c (NF b)) a)->bp T D n 31 [b.f] σ Q X
def PrF (T:dt)(D:aB->aJ cO)(k:aB)(b:Bl):Prop:=∀n,40+2*w1 b<=n->(∀t∈jK b,t.a<=50000)->∀(o:aB) (c:ao Tx) (e:Ev) (σ:a8) (QQ:QF) (XX:XS),c.a+k<=1000->e 1=ah (.e o)->σ[o]?=ah (.a (c.d .c))->
 (∀d a,d 0=e 0->d 1=e 1->a[o]?=ah (.a ((c++jK b).d .c))->(jK b).a<=k->fR o σ a->QQ .a d a)->jg (CW [2,4,5]) (di T (bp T D n) KD) b.k e σ QQ XX
theorem Eg {k:aB}(h:e 0=ah (.f m))(d:lZ (k:aU) m.a=ah k)(c:m[k]?=ah (.f l))(q:jg (CW a) (di T C b) l e σ (Cr T C s r QQ XX) XX):di T C (.a (.FL a (.l (.v 0) (.d k)) b) (.a s r)) e σ QQ XX:=aH h (b8 d (b8 c q))
theorem PZ (K:Shw T D):∀b:Bl,(shB b=ax->BlF T D b)/\(∀k,Yj k b=ax->PrF T D k b):=by
 intro b
 induction b with
 |h=>
  refine ⟨λh=>aR h,λk _ n _ _ o G e σ QQ XX _ h1 C q=>?_⟩;exact q e σ af af (by refine aA (show jK .h=[] from af) ?_;rw [bD];exact C) (bG _) (fR.oW o σ)
 |g x qs b r ihb ihr=>
  refine ⟨λh=>aR h,λk h n I B o G e σ QQ XX w h1 C q=>?_⟩;refine gl ?_;intro g9;cases k with
  |zero=>injection h
  |succ k=>
   have h:=ae.g h;have Y:=ae.g h.2;have nb:40+2*w1 b<=n:=ab (ar (bP 2 (da _ _)) 40) I;have nr:40+2*w1 r<=n:=ab (ar (bP 2 (cJ _ _)) 40) I;have w:G.a+(k+1)<=1000:=w;refine vC af (Jn (t:=NF b) (qs:=qs) (e:=uV e [2,4,5] [.c x,.f (qs.d xl),b.f]) (λe he w σ P X q=>eu (aH he ⟨K.a 31 af af,ihb.1 Y.1 n nb w σ P X q⟩)) (aa h.1) h1 af af af C (um (aQ (ab (ak _ _) w) (aa af))) (B _ (.head _)) λe' p a0 a1 H=>?_);refine ihr.2 k Y.2 n nr (λt ht'=>B t (.R _ ht')) o (G++[AO x qs++[59,32]++NF b++[59]]) e' _ QQ XX ?_ (a1.b h1) ?_ λe'' J b0 b1 b2 b3 b4=>?_
   ·exact aA ai (Gd w)
   ·rw [BL];exact eL (H.wB C)
   ·refine q e'' J (b0.b a0) (b1.b a1) ?_ (az b3) ?_
    ·refine aA b2 ?_;rw [ag];rfl
    ·exact fR.cq ⟨by refine aA bX ?_;exact H.1,λi hi w=>aA (bA (gJ hi)) (aA (H.2 i w) af)⟩ b4
 |e c z y ih=>
  refine ⟨λh n I w σ Q X q=>?_,λk h=>by cases k<;>cases h⟩;have h:=ae.g h;have Y:=ae.g h.2;have h3:=ae.g Y.2;have hv:=aa h.1;obtain ⟨n,rfl⟩:=JT (ab (ab (aa af) (ak 40 _)) I);have F:=ab (AL (BI c++c.d vT++jK z++[fQ,sT y,iQ])) w;have el:∀t∈BI c++c.d vT++jK z++[fQ,sT y,iQ],t.a<=50000:=λt B=>ab (HC B) F;have fin:∀(u:ao Tx) (e:Ev) (a:a8),u=BI c++c.d vT++jK z->u.a<=300->e 0=ah (Bl.e c z y).f->e 1=ah (.e σ.a)->a[σ.a]?=ah (.a (u.d .c))->jL σ a->di T (bp T D (n+1)) (.a (.CF (.u 28 (.a (.n .a (.v 1) (.z (.a (.h [98,101,103,105,110]) (.a (.u 29 (.a (.l (.v 0) (.d 3)) .b)) (.a (.h [101,110,100]) .b))))) .b))) .b) e a (ux Q) (λ_ p=>X p):=by
   intro u e a hp pl e0 e1 C s;refine eu (f7 (aH e1 ?_));refine A3.Oh (k:=3) (l:=[.c yN,.f (c.d Au),.f z.k,.f y.w2]) (K.a 29 af af) e0 af af (((PX K y).2 h3.2).2 _ (ab (aj (aa af) _) (aT (JU I (az (cJ _ _))))) (el _ (lK _ (.R _ (.head _))))) (el _ (lK _ (.R _ (.head _)))) a _ _ λj f=>(bk (cI (f.wB C)) (bk bO (dX ?_ (K.a 28 af af) ?_)))
   ·rw [ay];exact ab (aj pl 3) (aa af)
   refine vB K (ts:=u++[fQ,sT y,iQ]) ?_ bO ?_ λd L=>?_
   ·refine aA cw ?_;rfl
   ·rw [← hp] at F;unfold uk;exact aA ai (ab (aL F (aj pl 3)) (aa af))
   ·exact aA hp (q d ((s.gY f).gY ((jL.ig _).eP.eP.gY L)))
  have ep:∀t∈jK z,t.a<=50000:=λt B=>el t (sb _ (lK _ B));have A:∀(a:a8),a[σ.a]?=ah (.a ((BI c).d .c))->jL σ a->di T (bp T D (n+1)) (dj 2 KH.a) (bu (λi=>[(Bl.e c z y).f][i]?) 1 (.e σ.a)) a (ux Q) (λ_ p=>X p):=by
   intro a C s;have vl:(BI c).a<=1:=by
    cases c with
    |nil=>exact bG _
    |cons v c=>exact au _
   refine gd ?_;intro e9;refine Eg (k:=1) (m:=[.c yN,.f (c.d Au),.f z.k,.f y.w2]) af af af (Aq c (BI c) _ a af C (ab (aL vl hv) (aa af)) Y.1 (λt B=>el t (sb _ (sb _ (lK _ B)))) λe₂ j g N W=>?_);have f:=fR.ext s (au _) W;refine Eg (k:=2) (m:=[.c yN,.f (c.d Au),.f z.k,.f y.w2]) (g 0 (by decide) (by decide)) af af ?_;have al:(BI c++c.d vT).a<=101:=by refine aA ai ?_;rw [ay];exact aL vl hv
   refine ih.2 100 h3.1 _ (aT (JU I (az (da _ _)))) ep σ.a (BI c++c.d vT) e₂ j _ _ (ab (aj al 100) (aa af)) (g 1 (by decide) (by decide)) N λZ d a0 a1 M O V=>?_;exact fin _ Z d af (by refine aA ai ?_;exact ab (aL al O) (aa af)) (a0.b (g 0 (by decide) (by decide))) (a1.b (g 1 (by decide) (by decide))) M (fR.ext f (au _) V)
  refine bU K.q af ?_;intro zC zE zQ zX;refine D5 ?_;cases c with
  |nil=>exact A _ bO (jL.ig σ).eP
  |cons v c=>
   refine wX (b:=bg ((((v::c).d Au).a:aU)>0)) (bF (cM.i (eY _))) (vI (k:=1) (l:=[]) (t:=BH) af bO (aa af) (A3.qu BH) (aa af) λp H=>?_);exact A _ (eL (H.wB bO)) (((jL.ig σ).eP.gY H).GG (au _))
theorem PY (K:Shw T D)(j:shB b=ax)(g:41+2*w1 b<=n)(f:([112,114,111,103,114,97,109,32]++x++[59,32]++NF b++[46]).a<=50000)(q:∀c,jL σ c->Q (.c (ct [32,59] [59] ([112,114,111,103,114,97,109,32]++x++[59,32]++NF b++[46]))) c):bp T D n 32 [kB (x,b)] σ Q X:=by
 obtain ⟨n,rfl⟩:=rJ (ab (ab (aa af) (ak 41 _)) g);have m:(NF b).a<=50000:=by
  rw [ai,ai] at f;exact ab (aF _ _) (ab (ak _ _) f)
 refine bU K.r af ?_;intro s r p o;refine A3.nB (e:=λi=>[kB (x,b)][i]?) (A3.nB (A3.nB (A3.nB (A3.qu [112,114,111,103,114,97,109,32]) (A3.idx (k:=1) (l:=[.c kA,.c x,b.f]) af af af)) (A3.qu [59,32])) (A3.Oh (k:=2) (l:=[.c kA,.c x,b.f]) (K.a 31 af af) af af af ((PZ K b).1 j n (aY (ab (aV (EW 40 _).h) g)) m))) (A3.qu [46]) f σ _ _ λa d=>fK (cP _ _) ?_ ?_ (q a d)
 ·intro h;cases h
 ·exact ab (aL f (jF 1 (az f))) (aa af)
end
theorem Ng (m n:aB):((m:aU)).lD (n:aU)=((m / n:aB):aU):=by
 exact aA (Int.fdiv_eq_ediv_of_nonneg _ (bq n)) af
theorem ub (a b:aU):Ht a b=a.tdiv b:=by
 unfold Ht;rw [Ng];cases a with
 |ofNat m=>
  cases b with
  |ofNat n=>exact dw (bR (dQ.i (Int.mul_nonneg (bq m) (bq n)):¬ gc m*gc n<0)) af
  |negSucc n=>
   cases m with
   |zero=>refine aA (show gc 0*iU n=0 from Int.zero_mul _) ?_;show gc (0 / (n+1))=-gc (0 / (n+1));rw [Nat.zero_div];rfl
   |succ m=>exact aA (bF (Int.mul_neg_of_pos_of_neg (Int.natCast_pos.i (cp m)) (Int.negSucc_lt_zero n):gc (m+1)*iU n<0)) af
 |negSucc m=>
  cases b with
  |ofNat n=>
   cases n with
   |zero=>refine aA (show iU m*gc 0=0 from Int.mul_zero _) ?_;show gc ((m+1) / 0)=-gc ((m+1) / 0);rw [Nat.div_zero];rfl
   |succ n=>exact aA (bF (Int.mul_neg_of_neg_of_pos (Int.negSucc_lt_zero m) (Int.natCast_pos.i (cp n)):iU m*gc (n+1)<0)) af
  |negSucc n=>exact dw (bR (dQ.i (bq ((m+1)*(n+1))):¬ iU m*iU n<0)) af
noncomputable def Yk (a b:aU):aU:=a-Ht a b*b
theorem Mf (a b:aU):Yk a b=a.tmod b:=by
 unfold Yk;rw [ub,Int.tmod_def,wL]
noncomputable def WB (a b:aU):aU:=match bg (a.lD b<0)&&!bg (a.lD b*b=a) with
 |true=>a.lD b+1
 |false=>a.lD b
theorem MP (g:b≠0):WB a b=Ht a b:=by
 rw [ub];have h:=Int.tdiv_eq_fdiv (a:=a) (b:=b);unfold WB;cases d:bg (a.lD b*b=a) with
 |true=>
  have d:=aX d;have j:b ∣ a:=⟨a.lD b,by rw [wL];exact d.h⟩;rw [c7 j,nv] at h;exact aA (show (bg (a.lD b<0)&&!ax)=aw from hH _) h.h
 |false=>
  have i:¬ b ∣ a:=λq=>(cV d) (by obtain ⟨c,rfl⟩:=q;exact aA (wL b c) (aA (Int.mul_fdiv_cancel _ g) af));rw [dA i] at h;have f:∀{k:aU},a.tdiv b=a.lD b+k->((k=0/\0<=a.tdiv b)\/(k=1/\a.tdiv b<=0))->(match bg (a.lD b<0)&&!aw with
   |true=>a.lD b+1
   |false=>a.lD b)=a.tdiv b:=λe q=>by
   refine aA (show (bg (a.lD b<0)&&!aw)=bg (a.lD b<0) from tv _) ?_;rcases q with ⟨rfl,q⟩|⟨rfl,q⟩
   ·rw [nv] at e;refine aA (bR (e▸dQ.i q)) ?_;exact e.h
   ·refine aA (bF (by have q:=e▸q;exact q)) ?_;exact e.h
  refine f h ?_;cases a with
  |ofNat m=>
   refine aA (c7 (show 0<=gc m from bq m)) ?_;cases b with
   |ofNat n=>exact aA (c7 (show 0<=gc n from bq n)) (.C ⟨af,bq _⟩)
   |negSucc n=>exact .y ⟨af,pw (bq (m / (n+1)))⟩
  |negSucc m=>
   cases b with
   |ofNat n=>
    cases n with
    |zero=>exact bZ af g
    |succ n=>exact .y ⟨af,pw (bq ((m+1) / (n+1)))⟩
   |negSucc n=>exact .C ⟨af,bq ((m+1) / (n+1))⟩
noncomputable def iA:aB->Tx
 |0=>hK
 |1=>hU
 |2=>yC
 |3=>DG
 |_=>DF
noncomputable def JR (o:aB)(a b:aU):aJ aU:=match o with
 |0=>ah (a+b)
 |1=>ah (a-b)
 |2=>ah (a*b)
 |3=>(match bg (b=0) with
  |true=>aq
  |false=>ah (Ht a b))
 |_=>(match bg (b=0) with
  |true=>aq
  |false=>ah (Yk a b))
noncomputable def PI:aJ aU->R aU
 |some v=>.e v
 |aq=>.i
theorem B3 (b:jc u=ax)(a:jc v=ax):ua [42] u v=.e (u*v):=by
 show (match jc u&&jc v with
  |true=>.e (u*v)
  |false=>.j)=R.e (u*v)
 refine aA b (aA a ?_);rfl
theorem xk (o:aB)(d:jc a=ax)(c:jc b=ax):ua (iA o) a b=PI (JR o a b):=by
 have e:∀x,AA x a b=PI (match bg (b=0) with|true=>aq|false=>ah (match x with|true=>Ht a b|false=>Yk a b)):=λx=>by
  unfold AA;cases bg (b=0) with
  |true=>rfl
  |false=>
   show (match jc a&&jc b with|true=>_|false=>R.j)=_
   refine aA d (aA c ?_);cases x<;>rfl
 refine nt4 o ?_ ?_ ?_ ?_ λz=>?_
 ·rfl
 ·rfl
 ·exact B3 d c
 ·exact e ax
 ·exact e aw
def bd (n:aB)(v:aU):Prop:=v.o<2 ^ n
section
variable {n m i j:aB}{u v a b:aU}
theorem bd.le (h:bd n v)(a:n<=m):bd m v:=aS h (Nat.pow_le_pow_right (aa af) a)
theorem bd.nT (h:bd n v)(a:n<=1000):jc v=ax:=bF (h.le a)
theorem bd.neg (h:bd n v):bd n (-v):=by unfold bd;rw [Bb];exact h
theorem bd.Gu (h:bd n u)(a:bd n v):bd (n+1) (u+v):=aQ (Int.natAbs_add_le u v) (by rw [Nat.pow_succ,Nat.mul_two];exact Nat.add_lt_add h a)
theorem bd.Cu (h:bd n u)(a:bd n v):bd (n+1) (u-v):=h.Gu a.neg
theorem bd.Xz (h:bd i u)(a:bd j v):bd (i+j) (u*v):=by unfold bd;rw [Int.natAbs_mul,Nat.pow_add];exact Nat.mul_lt_mul'' h a
theorem AQ (h:bM (v.o+1) (2 ^ n)=ax):bd n v:=aa h
theorem Xy (h:bd n a):bd n (Yk a b):=by
 rw [Mf];unfold bd;rw [Int.natAbs_tmod];exact aQ (Nat.mod_le _ _) h
theorem Gs (h:bd n a):bd n (Ht a b):=by
 rw [ub];unfold bd;rw [Int.natAbs_tdiv];exact aQ (Nat.div_le_self _ _) h
def obd (n:aB)(o:aJ aU):Prop:=∀v,o=ah v->bd n v
theorem we (o:aB)(h:bd (i+1) a)(d:bd (j+1) b):obd (i+j+2) (JR o a b):=by
 have c:i+1<=i+j+1:=az (ak i j);have f:j+1<=i+j+1:=az (aF j i);have m:bd (i+j+2) (a*b):=(h.Xz d).le (aV (by rw [bo i 1];exact dw (bW (i+(j+1)) 1 0) af));have g:∀{w:aU},bd (i+1) w->obd (i+j+2) (match bg (b=0) with|true=>aq|false=>ah w):=λk=>by
  cases bg (b=0) with
  |true=>intro v e;injection e
  |false=>intro v e;injection e with e;subst e;exact k.le (b7 c)
 refine nt4 o ?_ ?_ ?_ ?_ λz=>?_
 ·intro v e;injection e with e;subst e;exact (h.le c).Gu (d.le f)
 ·intro v e;injection e with e;subst e;exact (h.le c).Cu (d.le f)
 ·intro v e;injection e with e;subst e;exact m
 ·exact g (Gs h)
 ·exact g (Xy h)
end
structure Cs where
 x:aU
 y:aU
 c:ao aU
noncomputable def nX:Tx:=[120]
noncomputable def nY:Tx:=[121]
noncomputable def nA:Tx:=[97]
noncomputable def fJ (k n:aB):Ex:=match k with
 |0=>.h n
 |1=>.g nX
 |2=>.m (.g nX)
 |3=>.k nA (.h 0)
 |4=>.m (.c yC (.g nX) (.h n))
 |_=>.m (.g nY)
noncomputable def d8 (k n:aB)(c:Cs):aU:=match k with
 |0=>n
 |1=>c.x
 |2=>-c.x
 |3=>c.c.uI 0
 |4=>-(c.x*n)
 |_=>-c.y
structure Ee where
 l:aB
 i:aB
 r:aB
 n:aB
 s:aB
 t:aB
 d:bC
noncomputable def z3 (e:Ee):Ex:=match e.d with
 |false=>.c (iA e.t) (.c (iA e.s) (fJ e.l e.n) (fJ e.i e.n)) (fJ e.r e.n)
 |true=>.c (iA e.t) (fJ e.l e.n) (.c (iA e.s) (fJ e.i e.n) (fJ e.r e.n))
noncomputable def z0 (e:Ee)(c:Cs):aJ aU:=match e.d with
 |false=>(JR e.s (d8 e.l e.n c) (d8 e.i e.n c)).J λv=>JR e.t v (d8 e.r e.n c)
 |true=>(JR e.s (d8 e.i e.n c) (d8 e.r e.n c)).J λv=>JR e.t (d8 e.l e.n c) v
noncomputable def ka (f:aB)(e:Ee):St:=match f with
 |0=>.iS
 |1=>.R (z3 e)
 |2=>.U nY (z3 e)
 |_=>.iR nA (fJ e.i e.n) (fJ (e.l+1) e.n)
noncomputable def sX (i:aU)(c:Cs):bC:=bg (0<=i/\i<(c.c.a:aU))
noncomputable def ow (f:aB)(e:Ee)(c:Cs):Cs:=match f with
 |0=>c
 |1=>c
 |2=>(match z0 e c with
  |some v=>⟨c.x,v,c.c⟩
  |aq=>c)
 |_=>(match sX (d8 e.i e.n c) c with
  |true=>⟨c.x,c.y,c.c.w (d8 e.i e.n c).p (d8 (e.l+1) e.n c)⟩
  |false=>c)
noncomputable def sZ (f:aB)(e:Ee)(c:Cs):ao (aJ aU):=match f with
 |0=>[]
 |1=>[z0 e c]
 |2=>(match z0 e c with
  |some _=>[]
  |aq=>[aq])
 |_=>(match sX (d8 e.i e.n c) c with
  |true=>[]
  |false=>[aq])
section
variable {sc:ao cG}{st:ao aU}{b b':aB}{x:Tx}{l a i k:aB}{e e':Ex}{u v:aU}
theorem Go.of {a:α}{k:α->Prop}(h:m=.e a)(hk:k a):Go m k res:=aA h hk
theorem fH (h:eR x sc 0=ah (l,.b a))(c:eM st l b=ah b'):zo sc st b x=.e (b'+a):=by unfold zo Mn;rw [h];dsimp only;rw [c]
theorem xr (h:eR x sc 0=ah (l,.f a))(d:eM st l b=ah b')(c:st[b'+a]?=ah (k:aU)):zo sc st b x=.e k:=by
 unfold zo Mn;refine aA h ?_;dsimp only;refine aA d ?_;show (rd st (b'+a)).g Wm=_;unfold rd;exact aA c af
theorem iO (h:zo sc st b x=.e i)(a:st[i]?=ah v):kY sc st b (.g x)=.e v:=by
 show (zo sc st b x).g (λi=>rd st i)=_;refine aA h ?_;show rd st i=_;unfold rd;exact aA a af
theorem j9 (d:kY sc st b e=.e u)(c:kY sc st b e'=.e v)(a:ua o u v=w):kY sc st b (.c o e e')=w:=by
 show (kY sc st b e).g _=_;refine aA d ?_;show (kY sc st b e').g _=_;exact aA c a
theorem Gj (h:kY sc st b e=.e u):kY sc st b (.m e)=.e (-u):=by
 show (kY sc st b e).g _=_;exact aA h af
end
noncomputable def i9 (c:Cs)(tmp:ao aU):ao aU:=0::0::0::c.x::c.y::(c.c++tmp)
structure MV (S:cG)(z:aB):Prop where
 x:eR nX [S] 0=ah (0,.b 3)
 y:eR nY [S] 0=ah (0,.b 4)
 a:eR nA [S] 0=ah (0,.e 5 z)
structure Bd (p q r:aB)(c:Cs):Prop where
 x:bd p c.x
 y:bd q c.y
 a:∀v∈c.c,bd r v
noncomputable def Ou (o:ao aU):ao (aJ aU)->(ao aU->Prop)->aJ (ao aU)->Prop
 |[],k,_=>k o
 |some v::r,k,res=>Ou (o++[v]) r k res
 |aq::_,_,res=>res=aq
theorem Ou.Yq:∀{a:ao (aJ aU)} {o:ao aU},Ou o (a++b) k res->Ou o a (λo=>Ou o b k res) res
 |[],_,h=>h
 |some v::a,o,h=>Ou.Yq (a:=a) (o:=o++[v]) h
 |aq::_,_,h=>h
theorem Ou.Tu:∀{a:ao (aJ aU)} {o:ao aU},Ou o a k res->Ou o a (λb=>b.a=o.a+a.a/\k b) res
 |[],_,h=>⟨af,h⟩
 |some v::a,o,h=>by
  have:=Ou.Tu (a:=a) (o:=o++[v]) h;have e:(o++[v]).a+a.a=o.a+(a.a+1):=by refine aA ai ?_;rw [bW,cv [v].a];rfl
  rw [e] at this;exact this
 |aq::_,_,h=>h
theorem Ou.z5 (b:∀o,k o->c o):∀{a:ao (aJ aU)} {o:ao aU},Ou o a k res->Ou o a c res
 |[],_,h=>b _ h
 |some v::a,o,h=>Ou.z5 (a:=a) (o:=o++[v]) b h
 |aq::_,_,h=>h
section
variable {S:cG}{z:aB}{c:Cs}{tmp:ao aU}{p q r:aB}
theorem MZ (h:0<as.a):(as++tmp)[0]?=ah (as.uI 0):=by
 cases as with
 |nil=>cases h
 |cons a as=>rfl
theorem AS (V:MV S z)(d:c.c.a=z)(b:0<z)(B:Bd p q r c)(e:p<=900)(f:n<4)(k:aB):kY [S] (i9 c tmp) 0 (fJ k n)=.e (d8 k n c):=by
 have a:kY [S] (i9 c tmp) 0 (.g nX)=.e c.x:=iO (fH V.x af) af;refine nt5 k ?_ ?_ ?_ ?_ ?_ λy=>?_
 ·rfl
 ·exact a
 ·exact Gj a
 ·show (HR [S] (i9 c tmp) 0 nA (kY [S] (i9 c tmp) 0 (.h 0))).g _=_;unfold HR;refine aA V.a ?_;show (match bg ((0:aU)<=0/\(0:aU)<(z:aU)) with
   |true=>(Mn (i9 c tmp) 0 0 5).g λk=>R.e ((0:aU).p+k)
   |false=>.i).g (λi=>rd (i9 c tmp) i)=_
  refine aA (bF (⟨Int.le_refl _,cM.i b⟩:(0:aU)<=0/\(0:aU)<(z:aU))) ?_;show rd (i9 c tmp) 5=_;unfold rd;exact (show (i9 c tmp)[5]?=ah (c.c.uI 0) from MZ (aA d b))▸af
 ·exact Gj (j9 a af (B3 (B.x.nT (ab e (aa af))) ((show bd 2 (n:aU) from f).nT (aa af))))
 ·exact Gj (iO (fH V.y af) af)
theorem qf (B:Bd p q r c)(e:n<4)(b:p+2<=m)(f:r<=m)(k:aB)(g:k<5\/q<=m):bd m (d8 k n c):=by
 have d:p<=m:=ab (ak _ _) b
 match k with
 |0=>exact (show bd 2 (n:aU) from e).le (ab (aF _ _) b)
 |1=>exact B.x.le d
 |2=>exact (B.x.le d).neg
 |3=>
  show bd m (c.c.uI 0);cases h:c.c with
  |nil=>exact (AQ af:bd 0 0).le (bG _)
  |cons a i=>exact (B.a a (aA h (.head _))).le f
 |4=>exact ((B.x.Xz (show bd 2 (n:aU) from e)).le b).neg
 |k+5=>exact (B.y.le (g.Y λh=>bZ h (eg (aF 5 k)))).neg
theorem Xj {a c:Ex}(e:kY sc st b a=.e u)(d:kY sc st b c=PI m)(h:∀v,m=ah v->ua o u v=PI (f v)):kY sc st b (.c o a c)=PI (m.J f):=by
 show (kY sc st b a).g _=_;refine aA e ?_;show (kY sc st b c).g _=_;refine aA d ?_;cases m with
 |none=>rfl
 |some v=>exact h v af
theorem Xk {a c:Ex}(e:kY sc st b c=.e u)(d:kY sc st b a=PI m)(h:∀v,m=ah v->ua o v u=PI (f v)):kY sc st b (.c o a c)=PI (m.J f):=by
 show (kY sc st b a).g _=_;refine aA d ?_;cases m with
 |none=>rfl
 |some v=>
  show (kY sc st b c).g _=_;exact aA e (h v af)
structure Eo' (e:Ee):Prop where
 l:e.l<5
 i:e.i<5
 r:e.r<5
 n:e.n<4
theorem aa5 (V:MV S z)(g:c.c.a=z)(i:0<z)(E:Eo' e)(B:Bd p q r c)(f:p<=200)(h:r<=200):kY [S] (i9 c tmp) 0 (z3 e)=PI (z0 e c):=by
 have v:=AS (tmp:=tmp) V g i B (ab f (aa af)) E.n;have b:∀k,k<5->bd 202 (d8 k e.n c):=λk d=>qf B E.n (aj f 2) (ab h (aa af)) k (.C d);have s:∀k,k<5->jc (d8 k e.n c)=ax:=λk d=>(b k d).nT (aa af);unfold z3 z0;cases e.d with
 |false=>exact Xk (v e.r) (j9 (v e.l) (v e.i) (xk e.s (s _ E.l) (s _ E.i))) λu a=>xk e.t ((we e.s (b _ E.l) (b _ E.i) u a).nT (by decide)) (s _ E.r)
 |true=>exact Xj (v e.l) (j9 (v e.i) (v e.r) (xk e.s (s _ E.i) (s _ E.r))) λu a=>xk e.t (s _ E.l) ((we e.s (b _ E.i) (b _ E.r) u a).nT (by decide))
theorem aa6 (E:Eo' e)(B:Bd p q r c)(l:p+2<=m+1)(h:r<=m+1):obd (3*m+3) (z0 e c):=by
 have b:∀k,k<5->bd (m+1) (d8 k e.n c):=λk n=>qf B E.n l h k (.C n);have g:m+m+1+m+2=3*m+3:=by rw [wH,wH,sD,bo (m+m) 1 m]
 have o:m+(m+m+1)+2=3*m+3:=by refine aA (cv m (m+m+1)) ?_;exact g
 unfold z0;cases e.d with
 |false=>
  intro v a;obtain ⟨u,f,d⟩:=Option.bind_eq_some_iff.g a;exact dw g (we (i:=m+m+1) (j:=m) e.t (we e.s (b _ E.l) (b _ E.i) u f) (b _ E.r) v d)
 |true=>
  intro v a;obtain ⟨u,f,d⟩:=Option.bind_eq_some_iff.g a;exact dw o (we (i:=m) (j:=m+m+1) e.t (b _ E.l) (we e.s (b _ E.i) (b _ E.r) u f) v d)
theorem kZ (k n:aB):(fJ k n).i=ax/\(fJ k n).j<=8:=by
 refine nt5 k ?_ ?_ ?_ ?_ ?_ λz=>?_
 ·exact ⟨af,(by decide:1<=8)⟩
 ·exact ⟨af,(by decide:2<=8)⟩
 ·exact ⟨af,(by decide:3<=8)⟩
 ·exact ⟨af,(by decide:5<=8)⟩
 ·exact ⟨af,(by decide:5<=8)⟩
 ·exact ⟨af,(by decide:3<=8)⟩
theorem yJ (o:aB):cF (iA o) wW=ax:=match o with
 |0=>af
 |1=>af
 |2=>af
 |3=>af
 |_+4=>af
theorem aa3 (e:Ee):(z3 e).i=ax/\(z3 e).j<=30:=by
 have a:=λk=>kZ k e.n;unfold z3;cases e.d with
 |false=>
  refine ⟨?_,ab (aL (aL (a e.l).2 (aj (a e.i).2 1)) (aj (a e.r).2 1)) (aa af)⟩;show (cF (iA e.t) wW&&(cF (iA e.s) wW&&(fJ e.l e.n).i&&(fJ e.i e.n).i)&&(fJ e.r e.n).i)=ax;rw [yJ,yJ,(a e.l).1,(a e.i).1,(a e.r).1];rfl
 |true=>
  refine ⟨?_,ab (aL (a e.l).2 (aj (aL (a e.i).2 (aj (a e.r).2 1)) 1)) (aa af)⟩;show (cF (iA e.t) wW&&(fJ e.l e.n).i&&(cF (iA e.s) wW&&(fJ e.i e.n).i&&(fJ e.r e.n).i))=ax;rw [yJ,yJ,(a e.l).1,(a e.i).1,(a e.r).1];rfl
theorem Rs.m (a:c.c.a<=3)(b:tmp.a<=2)(d:k<=1000):Rs (i9 c tmp).a k:=by
 have e:(i9 c tmp).a=c.c.a+tmp.a+5:=by show (c.c++tmp).a+5=_;rw [ai]
 exact cK (aA e (ab (aL (aj (aL a b) 5) (aj d 10)) (aa af)))
variable {code:ao In}{K:aB}{o:ao aU}{t:aB}{res:aJ (ao aU)}
theorem Gl (V:MV S z)(hz:c.c.a=z)(h0:0<z)(h3:z<=3)(ht:tmp.a<=2)(E:Eo' e)(B:Bd p q r c)(hp:p<=200)(hr:r<=200)(f:aB)(h:At code [S] fr pc (ka f e) pc')(ho:o.a<1000)
  (g:Ou o (sZ f e c) (λo=>U K code (i9 (ow f e c) tmp) 0 pc' o t res) res):U K code (i9 c tmp) 0 pc o t res:=by
 have Rr:∀{k:aB},k<=1000->Rs (i9 c tmp).a k:=Rs.m (aA hz h3) ht;have v:=aa5 (tmp:=tmp) V hz h0 E B hp hr;have w:=aa3 e;have rd30:(z3 e).j<=1000:=ab w.2 (aa af);revert h g;refine nt3 f ?_ ?_ ?_ λf=>?_
 ·intro h g;have:=At.abC h;subst this;exact g
 ·intro h g;refine At.A4 h w.1 (Rr rd30) (cH ho (aa af)) ?_;refine aA v ?_;have g:Ou o [z0 e c] (λo=>U K code (i9 c tmp) 0 pc' o t res) res:=g;revert g;cases z0 e c with
  |none=>exact id
  |some u=>exact id
 ·intro h g;refine At.Tw h w.1 (Rr rd30) (Go.of (fH V.y af) ?_);refine aA v ?_;unfold sZ ow at g;revert g;cases z0 e c with
  |none=>exact id
  |some u=>exact λg=>⟨bL (bL (bL (bL (eY _)))),g⟩
 ·intro h g;have ev:=λk=>AS (tmp:=tmp) V hz h0 B (ab hp (aa af)) E.n k;refine At.abB h (kZ _ _).1 (kZ _ _).1 (Rr (ab (kZ _ _).2 (by decide))) (Rr (ab (kZ _ _).2 (by decide))) ?_;rw [ev];unfold HR;refine aA V.a ?_;have g:Ou o (match sX (d8 e.i e.n c) c with
   |true=>[]
   |false=>[aq]) (λo=>U K code (i9 (match sX (d8 e.i e.n c) c with
   |true=>⟨c.x,c.y,c.c.w (d8 e.i e.n c).p (d8 (e.l+1) e.n c)⟩
   |false=>c) tmp) 0 pc' o t res) res:=g
  unfold sX at g;have g:=hz▸g;show Go (match bg (0<=d8 e.i e.n c/\d8 e.i e.n c<(z:aU)) with
   |true=>(Mn (i9 c tmp) 0 0 5).g λk=>R.e ((d8 e.i e.n c).p+k)
   |false=>.i) _ _
  cases hd:bg (0<=d8 e.i e.n c/\d8 e.i e.n c<(z:aU)) with
  |false=>have g:=hd▸g;exact g
  |true=>
   have g:=hd▸g;have hi:=aX hd;have li:(d8 e.i e.n c).p<c.c.a:=aA hz ((nu hi.1).i hi.2);show Go (kY [S] (i9 c tmp) 0 (fJ (e.l+1) e.n)) _ _;rw [ev];refine ⟨?_,?_⟩
   ·show _<(c.c++tmp).a+5;exact aA ai (jG (aS li (ak _ _)) 5)
   ·show U K code (0::0::0::c.x::c.y::(c.c++tmp).w (d8 e.i e.n c).p (d8 (e.l+1) e.n c)) 0 pc' o t res;exact aA (List.set_append_left _ _ li) g
theorem ou (f:aB)(e:Ee)(c:Cs):(sZ f e c).a<=1:=by
 refine nt3 f ?_ ?_ ?_ λf=>?_
 ·exact bG _
 ·exact au _
 ·show cC (match z0 e c with
   |some _=>[]
   |aq=>[aq])<=1
  cases z0 e c with
  |none=>exact au _
  |some v=>exact bG _
 ·show cC (match sX (d8 e.i e.n c) c with
   |true=>[]
   |false=>[aq])<=1
  cases sX (d8 e.i e.n c) c with
  |true=>exact bG _
  |false=>exact au _
theorem wY (f:aB)(e:Ee)(c:Cs):(ow f e c).x=c.x/\(ow f e c).c.a=c.c.a:=by
 refine nt3 f ?_ ?_ ?_ λf=>?_
 ·exact ⟨af,af⟩
 ·exact ⟨af,af⟩
 ·unfold ow;cases z0 e c<;>exact ⟨af,af⟩
 ·show (match sX (d8 e.i e.n c) c with
   |true=>(⟨c.x,c.y,c.c.w (d8 e.i e.n c).p (d8 (e.l+1) e.n c)⟩:Cs)
   |false=>c).x=c.x/\cC (match sX (d8 e.i e.n c) c with
   |true=>(⟨c.x,c.y,c.c.w (d8 e.i e.n c).p (d8 (e.l+1) e.n c)⟩:Cs)
   |false=>c).c=_
  cases sX (d8 e.i e.n c) c with
  |true=>exact ⟨af,bX⟩
  |false=>exact ⟨af,af⟩
end
noncomputable def Xs:aB->Tx
 |0=>[61]
 |1=>[60,62]
 |2=>[60]
 |3=>[60,61]
 |4=>[62]
 |_=>[62,61]
noncomputable def rel (u:aB)(a b:aU):bC:=match u with
 |0=>bg (a=b)
 |1=>!bg (a=b)
 |2=>bg (a<b)
 |3=>bg (a<=b)
 |4=>bg (a>b)
 |_=>bg (a ≥ b)
theorem F2 (u:aB)(a b:aU):ua (Xs u) a b=.e (JB (rel u a b)):=by
 refine nt5 u ?_ ?_ ?_ ?_ ?_ λz=>?_
 ·rfl
 ·rfl
 ·rfl
 ·rfl
 ·rfl
 ·rfl
theorem Nx (u:aB):cF (Xs u) wW=ax:=match u with
 |0=>af
 |1=>af
 |2=>af
 |3=>af
 |4=>af
 |_+5=>af
theorem sy:(JB b=0->b=aw)/\(JB b≠0->b=ax):=by
 cases b with
 |true=>exact ⟨λh=>bZ h (by decide),λz=>af⟩
 |false=>exact ⟨λz=>af,λh=>bZ af h⟩
noncomputable def z4 (q:aB)(e:Ee):Ex:=match aM q 6 with
 |true=>.l (fJ e.r e.n)
 |false=>.c (Xs q) (fJ (e.l+1) e.n) (fJ e.r e.n)
noncomputable def w0 (q:aB)(e:Ee)(c:Cs):bC:=match aM q 6 with
 |true=>bg ((d8 e.r e.n c).fmod 2=1)
 |false=>rel q (d8 (e.l+1) e.n c) (d8 e.r e.n c)
noncomputable def kM (c:Cs)(v:aU):Cs:=⟨v,c.y,c.c⟩
noncomputable def fl (up:bC):aU->aB->ao aU
 |_,0=>[]
 |v,j+1=>v::fl up (gN up v) j
noncomputable def JS (f:aB)(e:Ee):Cs->ao aU->Cs
 |c,[]=>c
 |c,v::r=>JS f e (ow f e (kM c v)) r
noncomputable def Jr (f:aB)(e:Ee):Cs->ao aU->ao (aJ aU)
 |_,[]=>[]
 |c,v::r=>sZ f e (kM c v)++Jr f e (ow f e (kM c v)) r
noncomputable def TH (P:aU->bC)(up:bC):aB->aU->aB->Prop
 |K,v,0=>P v=aw\/K=0
 |K,v,j+1=>P v=ax/\TH P up (K-1) (gN up v) j
noncomputable def LB (f p:aB)(c:Cs):Prop:=match aM f 2 with
 |true=>Bd (p+3) (3*p+15) p c
 |false=>Bd (p+3) p (p+5) c
section
variable {f p:aB}{c:Cs}
theorem LB.x (h:LB f p c):∃q r,Bd (p+3) q r c/\r<=p+5:=by
 unfold LB at h;refine gl ?_;intro a;cases e:aM f 2 with
 |true=>rw [e] at h;exact fF _ _ h (ak _ _)
 |false=>rw [e] at h;exact fF _ _ h (au _)
theorem LB.Tv (h:LB f p c)(a:bd (p+3) v):LB f p (kM c v):=by
 unfold LB at h ⊢;cases e:aM f 2 with
 |true=>rw [e] at h;exact ⟨a,h.y,h.a⟩
 |false=>rw [e] at h;exact ⟨a,h.y,h.a⟩
theorem LB.do (h:LB f p c)(E:Eo' e):LB f p (ow f e c):=by
 revert h;refine nt3 f ?_ ?_ ?_ λf=>?_
 ·intro h;exact h
 ·intro h;exact h
 ·intro h;have h:Bd (p+3) (3*p+15) p c:=h;show Bd (p+3) (3*p+15) p (match z0 e c with
   |some v=>⟨c.x,v,c.c⟩
   |aq=>c)
  cases b:z0 e c with
  |none=>exact h
  |some v=>exact ⟨h.x,((aa6 E h (m:=p+4) (au _) (ak p 5)) v b).le (aV (by rw [Nat.mul_add])),h.a⟩
 ·intro h;have h:Bd (p+3) p (p+5) c:=h;show Bd (p+3) p (p+5) (match sX (d8 e.i e.n c) c with
   |true=>⟨c.x,c.y,c.c.w (d8 e.i e.n c).p (d8 (e.l+1) e.n c)⟩
   |false=>c)
  cases sX (d8 e.i e.n c) c with
  |false=>exact h
  |true=>
   refine ⟨h.x,h.y,λv a=>?_⟩;rcases List.mem_or_eq_of_mem_set a with a|rfl
   ·exact h.a v a
   ·exact qf h E.n (au _) (au _) _ (.y (ak p 5))
theorem LB.xa (h:LB f p c):Bd (p+5) (3*p+15) (p+5) c:=by
 unfold LB at h;cases e:aM f 2 with
 |true=>have h:=e▸h;exact ⟨h.x.le (ar (by decide) p),h.y,λv a=>(h.a v a).le (ak _ _)⟩
 |false=>have h:=e▸h;exact ⟨h.x.le (ar (by decide) p),h.y.le (ab (i4 p (aa af)) (ak _ _)),h.a⟩
theorem LB.all (h:LB f p c):Bd (3*p+15) (3*p+15) (3*p+15) c:=
 have l:p+5<=3*p+15:=aL (i4 p (aa af)) (aa af)
 ⟨h.xa.x.le l,h.xa.y,λv a=>(h.xa.a v a).le l⟩
theorem LB.of (h:Bd p p p c):LB f p c:=by
 unfold LB;cases aM f 2 with
 |true=>exact ⟨h.x.le (ak _ _),h.y.le (ab (i4 p (aa af)) (ak _ _)),h.a⟩
 |false=>exact ⟨h.x.le (ak _ _),h.y,λv a=>(h.a v a).le (ak _ _)⟩
end
noncomputable def Hl (up:bC)(v:aU)(i:aB):aU:=match up with
 |true=>v+i
 |false=>v-i
theorem t5 (up:bC)(v:aU):Hl up v 0=v:=by
 cases up with
 |true=>exact nv v
 |false=>exact qD v
theorem wc (up:bC)(v:aU)(i:aB):Hl up (gN up v) i=Hl up v (i+1):=by
 cases up with
 |true=>exact (Int.add_assoc v 1 i).b (aW (v+·) (iy 1 i))
 |false=>exact (zg v 1 i).b (aW (v-·) (iy 1 i))
theorem Av:∀(j K:aB) (v:aU),(∀i:aB,i<j->P (Hl up v i)=ax)->(P (Hl up v j)=aw\/K<=j)->TH P up K v j:=by
 intro c
 induction c with
 |zero=>
  intro K v _ h;exact h.I (λh=>dw (t5 up v) h) Nat.le_zero.g
 |succ j a=>
  intro K v b e;exact ⟨dw (t5 up v) (b 0 (cp j)),a (K-1) (gN up v) (λi d=>aA (wc up v i) (b (i+1) (bL d))) ((wc up v j)▸e.I id λh=>mm h)⟩
section
variable {S:cG}{z p:aB}{c:Cs}{code:ao In}{K:aB}{o:ao aU}{t:aB}{res:aJ (ao aU)}{tmp:ao aU}{e:Ee}
theorem Rq (V:MV S z)(a:c.c.a=z)(d:0<z)(E:Eo' e)(B:Bd p p p c)(b:p<=200)(q:aB):kY [S] (i9 c tmp) 0 (z4 q e)=.e (JB (w0 q e c)):=by
 have v:=AS (tmp:=tmp) V a d B (ab b (aa af)) E.n;unfold z4 w0;cases aM q 6 with
 |true=>
  show (kY [S] (i9 c tmp) 0 (fJ e.r e.n)).g _=_;rw [v];show R.e ((d8 e.r e.n c).fmod 2)=.e (JB (bg ((d8 e.r e.n c).fmod 2=1)));rcases Int.emod_two_eq (d8 e.r e.n c) with h|h
  ·refine aA (n8 _ (by decide)) (aA h ?_);rfl
  ·refine aA (n8 _ (by decide)) (aA h ?_);rfl
 |false=>exact j9 (v _) (v _) (F2 q _ _)
theorem abb (q:aB)(e:Ee):(z4 q e).i=ax/\(z4 q e).j<=30:=by
 have a:=λk=>kZ k e.n;unfold z4;cases aM q 6 with
 |true=>exact ⟨(a e.r).1,ab (aj (a e.r).2 1) (aa af)⟩
 |false=>
  refine ⟨?_,ab (aL (a (e.l+1)).2 (aj (a e.r).2 1)) (aa af)⟩;show (cF (Xs q) wW&&(fJ (e.l+1) e.n).i&&(fJ e.r e.n).i)=ax;rw [Nx];refine aA (a (e.l+1)).1 (aA (a e.r).1 ?_);rfl
theorem vH (V:MV S z)(d:c.c.a=z)(u:0<z)(j:z<=3)(E:Eo' e)(h:At code [S] y l (.E (.U nX (.c (match up with
  |true=>hK
  |false=>hU) (.g nX) (.h 1))) (.nh (ka f e))) b) (i:p<=190) (B:LB f p (kM c (gN up c.x))) (s:o.a<1000)
  (g:Ou o (sZ f e (kM c (gN up c.x))) (λo=>U K code (i9 (ow f e (kM c (gN up c.x))) []) 0 b o t res) res):U K code (i9 c []) 0 l o t res:=by
 refine bf h.GI λm w v=>?_;refine l6 B.x λq r x n=>?_;have k:kY [S] (i9 c []) 0 (.g nX)=.e c.x:=iO (fH V.x af) af;refine At.Tw w (by cases up<;>rfl) (Rs.m (aA d j) (by decide) (show 4<=1000 by decide)) (Go.of (fH V.x af) (Go.of (a:=gN up c.x) ?_ ⟨bL (bL (bL (eY _))),?_⟩))
 ·cases up with
  |true=>exact j9 k af af
  |false=>exact j9 k af af
 ·exact Gl V (c:=kM c (gN up c.x)) d u j (by decide) E x (ab (aj i 3) (aa af)) (ab n (ab (aj i 5) (aa af))) f v.XU s g
end
section
variable {S:cG}{z p:aB}{code:ao In}{res:aJ (ao aU)}{e:Ee}{f fr pc pc':aB}
theorem Ct (V:MV S z)(u m:aB):kY [S] (i9 c tmp) 0 (.c (Xs u) (.g nX) (.h m))=.e (JB (rel u c.x m)):=j9 (iO (fH V.x af) af) af (F2 u _ _)
theorem DJ (K j:aB):K-1-(j+1)=K-(j+1+1):=by rw [sC,cv]
theorem Gf {o b:ao aU}(h:b.a=o.a+(sZ f e c).a)(d:o.a+(j+1)<=900):b.a+j<=900:=by
 refine aA h ?_;exact ab (aj (ar (ou f e c) _) j) (QG d)
where QG {a j:aB} (h:a+(j+1)<=900):a+1+j<=900:=ab (aV (gs a j)) h
theorem lt1 (h:a+j<=900):a<1000:=aQ (ab (ak _ _) h) (aa af)
theorem Pz (V:MV S z)(C:0<z)(r:z<=3)(E:Eo' e)(h:At code [S] fr pc (.wt (.c [60] (.g nX) (.h m)) (.vM (.E (.U nX (.c hK (.g nX) (.h 1))) (.nh (ka f e))))) pc')(y:p<=190) :
  ∀(j K:aB) (c:Cs) (o:ao aU) (t:aB),c.c.a=z->LB f p c->(∀i:aB,i<j->bd (p+3) (Hl ax (gN ax c.x) i))->TH (λv=>bg (v<(m:aU))) ax K c.x j->o.a+j<=900->
   Ou o (Jr f e c (fl ax (gN ax c.x) j)) (λo=>U (K-(j+1)) code (i9 (JS f e c (fl ax (gN ax c.x) j)) []) 0 pc' o t res) res->U K code (i9 c []) 0 pc o (t+(j+1)) res:=by
 refine mO (h.whl af) λq G F D u=>?_;intro j
 induction j with
 |zero=>
  intro K c o t b B n a l g;rcases a with a|rfl
  ·refine u (Rs.m (aA b r) (by decide) (show 4<=1000 by decide)) (Go.of (Ct V 2 m) ⟨λ_=>g,λk=>?_⟩);exact bZ (a.h.b (sy.2 k)) (by decide)
  ·exact U.Gy
 |succ j x=>
  intro K c o t b B n a l g;refine u (Rs.m (aA b r) (by decide) (show 4<=1000 by decide)) (Go.of (Ct V 2 m) ⟨λk=>?_,λ_=>?_⟩)
  ·exact bZ (a.1.h.b (sy.1 k)) (by decide)
  ·have s:bd (p+3) (gN ax c.x):=dw (t5 ax (gN ax c.x)) (n 0 (cp j));have d:=wY f e (kM c (gN ax c.x));refine vH (up:=ax) V b C r E F.beg y (B.Tv s) (lt1 l) ((Ou.Tu (Ou.Yq g)).z5 λw g=>D ?_);refine x (K-1) (ow f e (kM c (gN ax c.x))) w t (d.2.b b) ((B.Tv s).do E) (λi A=>?_) (aA d.1 a.2) (Gf g.1 l) ?_
   ·exact d.1▸(wc ax (gN ax c.x) i)▸n (i+1) (bL A)
   ·refine aA d.1 ?_;rw [DJ];exact g.2
theorem Qc (V:MV S z)(x:0<z)(n:z<=3)(E:Eo' e)(h:At code [S] fr pc (.wu (.E (.U nX (.c hU (.g nX) (.h 1))) (.nh (ka f e))) (.c [60,61] (.g nX) (.h m))) pc')(w:p<=190) :
  ∀(j K:aB) (c:Cs) (o:ao aU) (t:aB),c.c.a=z->LB f p c->(∀i:aB,i<j+1->bd (p+3) (Hl aw (gN aw c.x) i))->TH (λv=>!bg (v<=(m:aU))) aw K (gN aw c.x) j->o.a+(j+1)<=900->
   Ou o (Jr f e c (fl aw (gN aw c.x) (j+1))) (λo=>U (K-(j+1)) code (i9 (JS f e c (fl aw (gN aw c.x) (j+1))) []) 0 pc' o t res) res->U K code (i9 c []) 0 pc o (t+(j+1)) res:=by
 refine bf (h.rep af) λq C A=>?_;intro j
 induction j with
 |zero=>
  intro K c o t d B l a k g;refine gl ?_;intro y;rcases a with a|rfl
  ·have r:bd (p+3) (gN aw c.x):=dw (t5 aw (gN aw c.x)) (l 0 (cp _));have b:=wY f e (kM c (gN aw c.x));refine vH (up:=aw) V d x n E C w (B.Tv r) (lt1 k) ((Ou.Yq g).z5 λu g=>?_);refine A (Rs.m (aA (b.2.b d) n) (by decide) (show 4<=1000 by decide)) (Go.of (Ct V 3 m) ⟨λs=>?_,λ_=>g⟩);have:=sy.1 s;have this:=b.1▸this;have a:(!bg (gN aw c.x<=(m:aU)))=aw:=a;have a:=(show bg (gN aw c.x<=(m:aU))=aw from this)▸a;refine gl ?_;intro y;injection a
  ·exact U.Gy
 |succ j D=>
  intro K c o t d B l a k g;have r:bd (p+3) (gN aw c.x):=dw (t5 aw (gN aw c.x)) (l 0 (cp _));have b:=wY f e (kM c (gN aw c.x));refine vH (up:=aw) V d x n E C w (B.Tv r) (lt1 k) ((Ou.Tu (Ou.Yq g)).z5 λu g=>?_);refine A (Rs.m (aA (b.2.b d) n) (by decide) (show 4<=1000 by decide)) (Go.of (Ct V 3 m) ⟨λ_=>?_,λs=>?_⟩)
  ·refine D (K-1) (ow f e (kM c (gN aw c.x))) u t (b.2.b d) ((B.Tv r).do E) (λi F=>?_) (aA b.1 a.2) (Gf g.1 k) ?_
   ·exact b.1▸(wc aw (gN aw c.x) i)▸l (i+1) (bL F)
   ·refine aA b.1 ?_;rw [DJ];exact g.2
  ·have:=sy.2 s;have this:=b.1▸this;have a:(!bg (gN aw c.x<=(m:aU)))=ax:=a.1;have a:=(show bg (gN aw c.x<=(m:aU))=ax from this)▸a;refine gl ?_;intro y;injection a
theorem Hf (c:Cs)(v w:aU):i9 c []++[v,w]=i9 c [v,w]:=by
 unfold i9;rw [bD];rfl
theorem HM (V:MV S z)(T:0<z)(u:z<=3)(E:Eo' e)(h:At code [S] (5+z) pc (.ti nX a b up (ka f e)) pc')(J:a.i=ax)(I:b.i=ax)(N:a.j<=100)(M:b.j<=100)(A:p<=190){c:Cs}(d:c.c.a=z)(B:LB f p c)(D:kY [S] (i9 c []) 0 a=.e k)(C:kY [S] (i9 c []) 0 b=.e m)
  {j K:aB} {o:ao aU} {t:aB} (s:∀i:aB,i<j->bd (p+3) (Hl up k i)) (l:TH (λv=>zZ up v m) up K k j) (r:o.a+j<=900)
  (g:Ou o (Jr f e c (fl up k j)) (λo=>U (K-(j+1)) code (i9 (JS f e c (fl up k j)) []) 0 pc' o t res) res):U K code (i9 c []) 0 pc o (t+(j+1)) res:=by
 refine By (h.for J I) λL q q' X G F W=>?_;have n:∀c:Cs,c.c.a=z->(i9 c []).a=0+(5+z):=λc d=>by
  show (c.c++[]).a+5=_;rw [bD,d,dJ,cv]
 have y:∀c:Cs,c.c.a=z->Rs ((i9 c []).a+2) 0:=λc d=>cK (aA (n c d) (ab (aj (aj (ar (ar u 5) 0) 2) 10) (aa af)));refine G (Rs.m (aA d u) (by decide) (ab N (by decide))) (Rs.m (aA d u) (by decide) (ab M (by decide))) (Go.of D (Go.of C ?_));clear D C G;revert k K c o t
 induction j with
 |zero=>
  intro k c d B K o t s l r g;rcases l with l|rfl
  ·exact F (n c d) (y c d) (λw=>bZ (w.h.b l) (by decide)) λ_=>g
  ·exact U.Gy
 |succ j O=>
  intro k c d B K o t s l r g;refine F (n c d) (y c d) (λ_=>Go.of (fH V.x af) ⟨aS (by decide:0+3<5) (ab (aF 5 _) (ak _ 2)),?_⟩) λw=>bZ (l.1.h.b w) (by decide);have x:=wY f e (kM c k);have H:=B.Tv (show bd (p+3) k from dw (t5 up k) (s 0 (cp j)));refine l6 H.x λq1 Z Y P=>?_;show U (K-1) code (i9 (kM c k) []++[k,m]) 0 q o (t+(j+1)) res;rw [Hf];refine Gl V (c:=kM c k) (tmp:=[k,m]) d T u (au 2) E Y (ab (aj A 3) (aa af)) (ab P (ab (aj A 5) (aa af))) f X (lt1 r) ((Ou.Tu (Ou.Yq g)).z5 λo' g=>?_);rw [← Hf];refine W (n _ (x.2.b d)) (y _ (x.2.b d)) (O (x.2.b d) (H.do E) (λi m=>aA (wc up k i) (s (i+1) (bL m))) l.2 (Gf g.1 r) ?_);rw [DJ];exact g.2
end
noncomputable def jj (n:aU):aB:=(jd n 18).p
theorem HJ (h:i<jj n):(i:aU)<n:=ks (Int.lt_toNat.g h) (Int.min_le_left _ _)
theorem q0 (n:aU):jj n<=18:=i5.i (iK n 18)
theorem Ce (a:K<=17):n<=(jj n:aB)\/K+1<=jj n:=by
 unfold jj;rcases EZ n 18 with h|h
 ·refine aA (eW h) ?_;exact .C (Int.self_le_toNat n)
 ·refine aA (gi h) ?_;exact .y (az a)
theorem WE (x m:aU):∃j,jj (x-jd m (x-1))=j+1:=by
 obtain ⟨k,a⟩:=dn (jH (show 1<=jd (x-jd m (x-1)) 18 from J4.i ⟨Int.le_sub_left_of_add_le (Int.add_le_of_le_sub_right (iK m (x-1))),by decide⟩));unfold jj;exact aA (rT.g a) ⟨k,af⟩
theorem QL {x:aU}(i:aB):x-1-(i:aU)=x-((i+1:aB):aU):=(zg x 1 i).b (aW (x-·) (iy 1 i))
theorem adh (h:((i+1:aB):aU)<x-jd m (x-1))(a:0<=(i:aU)):¬ x-1-(i:aU)<=m:=λq=>fP.i h (ee (Int.sub_le_sub_left (J4.i ⟨q,Int.sub_le_self _ a⟩) x) (wM ((aW (x-·) (QL i)).b (ql x _))))
theorem adg (h:x-jd m (x-1)<=((j+1:aB):aU)):x-1-(j:aU)<=m:=ee (ee (wM (QL j)) (Int.sub_le_sub_left h x)) (ee (wM (ql x _)) (Int.min_le_left m (x-1)))
theorem adf {l r i:aU}(h:i<l-r+1):l-i ≥ r:=Int.le_sub_left_of_add_le (Int.add_le_of_le_sub_right (Int.le_of_lt_add_one h))
theorem ade {l r j:aU}(h:l-r+1<=j):¬ l-j ≥ r:=λq=>fP.i (Int.lt_of_add_one_le h) (Int.le_sub_right_of_add_le (Int.add_le_of_le_sub_left q))
theorem aaP (a b c:aU):a-c-(b-c)=a-b:=by rw [zg,iy,Int.sub_add_cancel]
theorem S5 (a b:aU):a+1-b=a-b+1:=by refine aA uT ?_;rw [Int.add_right_comm];rfl
theorem aaQ (a b:aU):a-(b-1)=a-b+1:=by refine aA uT ?_;rw [Int.neg_sub,← wN,S5]
noncomputable def PV (k m:aB)(e:Ee)(c:Cs):aU:=match k with
 |2=>(m:aU)-c.x
 |3=>c.x-jd (m:aU) (c.x-1)
 |4=>d8 e.r e.n c-d8 e.l e.n c+1
 |_=>d8 e.l e.n c-d8 e.r e.n c+1
noncomputable def VW (k m:aB)(e:Ee)(c:Cs):ao aU:=match k with
 |2=>fl ax (gN ax c.x) (jj (PV k m e c))
 |3=>fl aw (gN aw c.x) (jj (PV k m e c))
 |4=>fl ax (d8 e.l e.n c) (jj (PV k m e c))
 |_=>fl aw (d8 e.l e.n c) (jj (PV k m e c))
noncomputable def Ji (k f q m:aB)(e:Ee):St:=match k with
 |0=>.uF (z4 q e) (ka f e)
 |1=>.uE (z4 q e) (ka f e) (ka (3-f) e)
 |2=>.wt (.c [60] (.g nX) (.h m)) (.vM (.E (.U nX (.c hK (.g nX) (.h 1))) (.nh (ka f e))))
 |3=>.wu (.E (.U nX (.c hU (.g nX) (.h 1))) (.nh (ka f e))) (.c [60,61] (.g nX) (.h m))
 |4=>.ti nX (fJ e.l e.n) (fJ e.r e.n) ax (ka f e)
 |5=>.ti nX (fJ e.l e.n) (fJ e.r e.n) aw (ka f e)
 |_=>.vM (.E (ka f e) (.nh (ka (3-f) e)))
noncomputable def VX (k f q m:aB)(e:Ee)(c:Cs):Cs:=match k with
 |0=>(match w0 q e c with
  |true=>ow f e c
  |false=>c)
 |1=>(match w0 q e c with
  |true=>ow f e c
  |false=>ow (3-f) e c)
 |6=>ow (3-f) e (ow f e c)
 |_=>JS f e c (VW k m e c)
noncomputable def Yi (k f q m:aB)(e:Ee)(c:Cs):ao (aJ aU):=match k with
 |0=>(match w0 q e c with
  |true=>sZ f e c
  |false=>[])
 |1=>(match w0 q e c with
  |true=>sZ f e c
  |false=>sZ (3-f) e c)
 |6=>sZ f e c++sZ (3-f) e (ow f e c)
 |_=>Jr f e c (VW k m e c)
noncomputable def FZ (k m:aB)(e:Ee)(c:Cs):aB:=match k with
 |0=>0
 |1=>0
 |3=>(VW k m e c).a
 |6=>0
 |_=>(VW k m e c).a+1
theorem q8 (up:bC):∀(j:aB) (v:aU),(fl up v j).a=j:=by
 intro b
 induction b with
 |zero=>
  intro _;exact af
 |succ j a=>
  intro v;exact aW ix (a (gN up v))
section
variable {S:cG}{z p:aB}{c:Cs}{code:ao In}{K:aB}{o:ao aU}{t:aB}{res:aJ (ao aU)}{e:Ee}
theorem sS (d:3<=p)(a:bd (p+2) v)(c:i<=18)(up:bC):bd (p+3) (Hl up v i):=by
 have b:bd (p+2) (i:aU):=(show bd 5 (i:aU) from aQ c (aa af)).le (aj d 2);cases up with
 |true=>exact a.Gu b
 |false=>exact a.Cu b
theorem DL (V:MV S z)(d:c.c.a=z)(v:0<z)(F:z<=3)(E:Eo' e)(u:3<=p)(A:p<=190)(B:Bd p p p c)(X:K<=17){k f q m w a:aB}(hk:k<7)(h:At code [S] (5+z) w (Ji k f q m e) a)(D:o.a<=800)
  (g:Ou o (Yi k f q m e c) (λo=>U (K-FZ k m e c) code (i9 (VX k f q m e c) []) 0 a o t res) res):U K code (i9 c []) 0 w o (t+FZ k m e c) res:=by
 have L:∀f,LB f p c:=λf=>LB.of B;have y:p<=200:=ab A (aa af);have P:∀j,j<=18->o.a+j<=900:=λj J=>ab (aL D J) (aa af);have T:o.a<1000:=aQ D (aa af);have bx:∀Z,bd (p+2) (gN Z c.x):=λZ=>by
  have b1:bd p (1:aU):=(AQ af:bd 1 1).le (ab (aa af) u);cases Z with
  |true=>exact (B.x.Gu b1).le (bh _)
  |false=>exact (B.x.Cu b1).le (bh _)
 have bl:bd (p+2) (d8 e.l e.n c):=qf B E.n (au _) (ak _ _) _ (.C E.l);have l:∀{f w a:aB} (G:Cs) (I:G.c.a=z) (Y:∃q r,Bd (p+3) q r G/\r<=p+5) (h:At code [S] (5+z) w (ka f e) a) {o:ao aU} (D:o.a<1000) (g:Ou o (sZ f e G) (λo=>U K code (i9 (ow f e G) []) 0 a o t res) res),U K code (i9 G []) 0 w o t res:=fun {f w a} G I Y h {o} D g=>by
  refine l6 Y λq r Y hr=>?_;exact Gl V I v F (by decide) E Y (ab (aj A 3) (aa af)) (ab hr (ab (aj A 5) (aa af))) f h D g
 have W:=abb q e;have CE:=Rq (tmp:=[]) V d v E B y q;have Rw:Rs (i9 c []).a (z4 q e).j:=Rs.m (aA d F) (by decide) (ab W.2 (aa af));revert h g;refine X5 hk ?_ ?_ ?_ ?_ ?_ ?_ ?_
 ·intro h g;refine bf (h.if1 W.1) λr O N=>?_;refine N Rw (Go.of CE ?_);have g:Ou o (match w0 q e c with
   |true=>sZ f e c
   |false=>[]) (λo=>U K code (i9 (match w0 q e c with
   |true=>ow f e c
   |false=>c) []) 0 a o t res) res:=g
  refine ⟨λx=>?_,λx=>?_⟩
  ·rw [sy.1 x] at g;exact g
  ·rw [sy.2 x] at g;exact l c d (L f).x O T g
 ·intro h g;refine By (h.if2 W.1) λr r' s O N a3 a4=>?_;refine a4 Rw (Go.of CE ?_);have g:Ou o (match w0 q e c with
   |true=>sZ f e c
   |false=>sZ (3-f) e c) (λo=>U K code (i9 (match w0 q e c with
   |true=>ow f e c
   |false=>ow (3-f) e c) []) 0 a o t res) res:=g
  refine ⟨λx=>?_,λx=>?_⟩
  ·rw [sy.1 x] at g;exact l c d (L f).x N T g
  ·rw [sy.2 x] at g;exact l c d (L f).x O T (g.z5 λo g=>a3 g)
 ·intro h g;have C:FZ 2 m e c=jj (PV 2 m e c)+1:=aW ix (q8 ax _ _);rw [C] at g ⊢;refine Pz V v F E h A _ K c o t d (L f) (λi b=>sS u (bx ax) (ab (dK b) (q0 _)) ax) (Av _ _ _ (λi b=>?_) ?_) (P _ (q0 _)) g
  ·have:(i:aU)<(m:aU)-c.x:=HJ b;exact bF (Int.add_lt_of_lt_sub_left this)
  ·refine (Ce (n:=(m:aU)-c.x) X).I (λh=>?_) aT;exact bR (dQ.i (Int.le_add_of_sub_left_le h))
 ·intro h g;have C:FZ 3 m e c=jj (PV 3 m e c):=q8 aw _ _;rw [C] at g ⊢;obtain ⟨j,J⟩:=WE c.x m;have H:j+1<=18:=dw J (q0 _);have g:Ou o (Jr f e c (fl aw (gN aw c.x) (jj (c.x-jd (m:aU) (c.x-1))))) (λo=>U (K-jj (c.x-jd (m:aU) (c.x-1))) code (i9 (JS f e c (fl aw (gN aw c.x) (jj (c.x-jd (m:aU) (c.x-1))))) []) 0 a o t res) res:=g;show U K code (i9 c []) 0 w o (t+jj (c.x-jd (m:aU) (c.x-1))) res;have r:=Ce (n:=c.x-jd (m:aU) (c.x-1)) X;rw [J] at g r ⊢;refine Qc V v F E h A _ K c o t d (L f) (λi b=>sS u (bx aw) (ab (dK b) H) aw) (Av _ _ _ (λi b=>?_) ?_) (P _ H) g
  ·have:=(λi (h:i<j+1)=>HJ (n:=c.x-jd (m:aU) (c.x-1)) (aA J h)) (i+1) (bL b);show (!bg (c.x-1-(i:aU)<=(m:aU)))=ax;exact aA (bR (adh this (bq i))) af
  ·show (!bg (c.x-1-(j:aU)<=(m:aU)))=aw\/K<=j;rcases r with r|r
   ·exact .C (aA (bF (adg r)) af)
   ·exact .y (aY r)
 ·intro h g;have C:FZ 4 m e c=jj (PV 4 m e c)+1:=aW ix (q8 ax _ _);rw [C] at g ⊢;have M:=AS (tmp:=[]) V d v B (ab y (by decide)) E.n;refine HM V v F E h (kZ _ _).1 (kZ _ _).1 (ab (kZ _ _).2 (by decide)) (ab (kZ _ _).2 (by decide)) A d (L f) (M e.l) (M e.r) (λi b=>sS u bl (ab (dK b) (q0 _)) ax) (Av _ _ _ (λi b=>?_) ?_) (P _ (q0 _)) g
  ·have:(i:aU)<d8 e.r e.n c-d8 e.l e.n c+1:=HJ b;exact bF (Int.add_le_of_le_sub_left (Int.le_of_lt_add_one this))
  ·refine (Ce (n:=d8 e.r e.n c-d8 e.l e.n c+1) X).I (λh=>?_) aT;exact bR (fP.i (Int.lt_add_of_sub_left_lt (Int.lt_of_add_one_le h)))
 ·intro h g;have C:FZ 5 m e c=jj (PV 5 m e c)+1:=aW ix (q8 aw _ _);rw [C] at g ⊢;have M:=AS (tmp:=[]) V d v B (ab y (by decide)) E.n;refine HM V v F E h (kZ _ _).1 (kZ _ _).1 (ab (kZ _ _).2 (by decide)) (ab (kZ _ _).2 (by decide)) A d (L f) (M e.l) (M e.r) (λi b=>sS u bl (ab (dK b) (q0 _)) aw) (Av _ _ _ (λi b=>?_) ?_) (P _ (q0 _)) g
  ·have:(i:aU)<d8 e.l e.n c-d8 e.r e.n c+1:=HJ b;show bg (d8 e.l e.n c-(i:aU) ≥ d8 e.r e.n c)=ax;exact bF (adf this)
  ·refine (Ce (n:=d8 e.l e.n c-d8 e.r e.n c+1) X).I (λh=>?_) aT;show bg (d8 e.l e.n c-(jj (PV 5 m e c):aU) ≥ d8 e.r e.n c)=aw;exact bR (ade h)
 ·intro h g;refine bf ((At.beg h).GI) λr O N=>?_;exact l c d (L f).x O T ((Ou.Tu (Ou.Yq g)).z5 λo' g=>l (ow f e c) ((wY f e c).2.b d) ((L f).do E).x N.XU (g.1▸aQ (aL D (ou f e c)) (aa af)) g.2)
end
noncomputable def nU:Tx:=[117]
noncomputable def nV:Tx:=[118]
noncomputable def nW:Tx:=[119]
noncomputable def nZ:Tx:=[122]
noncomputable def nR:Tx:=[114]
noncomputable def nQ:Tx:=[113]
noncomputable def nS:Tx:=[115]
noncomputable def qP:ao (Tx×bC):=[(nU,aw),(nV,ax)]
noncomputable def rB:Bl:=.e [] .h (.E (.U nW (.c hK (.g nW) (.g nU))) (.E (.U nZ (.c hK (.c yC (.g nZ) (.h 2)) (.g nW))) (.nh (.U nX (.c hU (.g nX) (.h 1))))))
noncomputable def qIf:St:=.uF (.c [62] (.g nU) (.h 1)) (.ip nQ [.c hU (.g nU) (.h 1),.g nV])
noncomputable def qB:Bl:=.e [(nW,aq)] (.g nR [(nZ,ax)] rB .h) (.E (.ip nR [.g nW]) (.E qIf (.E (.ip nR [.g nV]) (.nh (.R (.g nV))))))
section
variable {sc:ao cG}{st:ao aU}{b b':aB}{x:Tx}{l a i k:aB}
theorem Co (h:st[b]?=ah (b':aU)):eM st 1 b=ah b':=by
 show (match st[b]? with
  |some (.ofNat v)=>ah v
  |_=>aq)=_
 exact aA h af
theorem Xf {c:aB}(h:st[b]?=ah (b':aU))(a:st[b']?=ah (c:aU)):eM st 2 b=ah c:=by
 show (match st[b]? with
  |some (.ofNat v)=>eM st 1 v
  |_=>aq)=_
 exact aA h (Co a)
end
theorem pS (st l:ao aU)(k:aB):(st++l)[st.a+k]?=l[k]?:=by refine aA (dH (ak _ _)) ?_;rw [gG]
theorem DM {l:ao aU}(h:i<st.a):(st++l).w i v=st.w i v++l:=List.set_append_left _ _ h
theorem L6 (st l:ao aU)(k:aB)(v:aU):(st++l).w (st.a+k) v=st++l.w k v:=by refine aA (lJ _ _ (ak _ _)) ?_;rw [gG]
theorem Rs.st {st l:ao aU}(h:st.a<=10000)(a:bM (l.a+(k+10)) 700000=ax):Rs (st++l).a k:=by
 refine cK ?_;refine aA ai ?_;rw [bW];exact ab (aL h (aa a)) (aa af)
theorem Eb {st:ao aU}(h:i<st.a):st[i]?=ah (st.l i 0):=cD▸bV h▸af
noncomputable def fr (b' a:aB)(u:aU)(b:aB)(w:aU):ao aU:=[0,(b':aU),(a:aU),u,(b:aU),w]
noncomputable def SJ:cG:=[(nZ,.f 3)]
noncomputable def t7:cG:=[(nU,.b 3),(nV,.f 4),(nW,.b 5),(nR,.c 2 [(nZ,ax)])]
structure RC (code:ao In)(S:cG):Prop where
 c:∃pb m1 m2 pe,At code [SJ,t7,S] 4 pb (.U nW (.c hK (.g nW) (.g nU))) m1/\At code [SJ,t7,S] 4 m1 (.U nZ (.c hK (.c yC (.g nZ) (.h 2)) (.g nW))) m2/\At code [SJ,t7,S] 4 m2 (.U nX (.c hU (.g nX) (.h 1))) pe/\code[pe]?=ah .e/\
  ∀{K:aB} {st:ao aU} {b:aB} {o:ao aU} {t:aB} {res:aJ (ao aU)},st.a<=900000->U K code st b pb o t res->U K code st b 2 o t res
section
variable {code:ao In}{S:cG}{K:aB}{o:ao aU}{t:aB}{res:aJ (ao aU)}
theorem U.ret (d:code[a]?=ah .e)(h:b=st.a)(i:b≠0)(g:U K code st b' c o t res):U K code (st++([l,(b':aU),(c:aU)]++st')) b a o t res:=λf e=>.a (by rw [← ag];exact .B d h i) (g f e)
noncomputable def rS (b a:aB)(u w:aU)(s:ao aU):ao aU:=((s.w (b+5) (w+u)).w a ((s.w (b+5) (w+u)).l a 0*2+(w+u)))
theorem aaV {s:ao aU}(h:i<s.a):(s.w i v)[i]?=ah v:=gT h
theorem SU (Rc:RC code S)(J:eR nX [SJ,t7,S] 0=ah (2,.b 3))(H:s.a<=1000)(I:b+5<s.a)(M:s[b]?=ah (0:aU))(W:s[b+3]?=ah u)(V:s[b+5]?=ah w)(m:d<s.a)(r:3<s.a)(y:d≠b)(B:jc ((s.w (b+5) (w+u)).l d 0)=ax)(A:(rS b d u w s)[3]?=ah x)
  (C:(s.w (b+5) (w+u))[b+5]?=ah (w+u))
  (g:U K code ((rS b d u w s).w 3 (x-1)) b c o t res):U K code (s++[(b:aU),(b:aU),(c:aU)]++[(d:aU)]) s.a 2 o t res:=by
 refine U6 Rc.c λP m1 T pe a1 a2 Z Y X=>?_;have n:s.a<=10000:=ab H (aa af);refine X (by rw [ag];refine aA ai ?_;exact ab (aj H 4) (aa af)) ?_;rw [ag];show U K code (s++[(b:aU),(b:aU),(c:aU),(d:aU)]) s.a P o t res;have k:∀(f:ao aU),f.a=s.a->f[b]?=ah (0:aU)->eM (f++[(b:aU),(b:aU),(c:aU),(d:aU)]) 1 s.a=ah b/\eM (f++[(b:aU),(b:aU),(c:aU),(d:aU)]) 2 s.a=ah 0:=λf e h=>by
  have L:(f++[(b:aU),(b:aU),(c:aU),(d:aU)])[s.a]?=ah (b:aU):=dw e (pS f _ 0);exact ⟨Co L,Xf L (hZ h)⟩
 have O:∀(f:ao aU),f.a=s.a->zo [SJ,t7,S] (f++[(b:aU),(b:aU),(c:aU),(d:aU)]) s.a nZ=.e d:=λf e=>xr (a:=3) af af (dw e (pS f _ 3));have z:=k s af M;have F:∀{i:aB} {v:aU},s[i]?=ah v->(s++[(b:aU),(b:aU),(c:aU),(d:aU)])[i]?=ah v:=λh=>hZ h;refine At.Tw a1 af (Rs.st n af) (Go.of (fH (l:=1) (a:=5) af z.1) (Go.of (j9 (iO (fH (l:=1) (a:=5) af z.1) (F V)) (iO (fH (l:=1) (a:=3) af z.1) (F W)) af) ⟨?_,?_⟩))
 ·refine aA ai ?_;exact aS I (ak _ _)
 refine aA (DM I) ?_;have j:(s.w (b+5) (w+u)).a=s.a:=bX;have N:(s.w (b+5) (w+u))[b]?=ah (0:aU):=(bA (dW (cX (aa af)))).b M;have D:=O _ j;refine At.Tw a2 af (ai▸j▸(dw ai (Rs.st (l:=[(b:aU),(b:aU),(c:aU),(d:aU)]) n af))) (Go.of D (Go.of (j9 (j9 (iO D (hZ (Eb (aA j m)))) af (B3 B af)) (iO (fH (l:=1) (a:=5) af (k _ j N).1) (hZ C)) af) ⟨?_,?_⟩))
 ·exact ai▸j▸aS m (ak _ _)
 refine aA (DM (j.h▸m)) ?_;show U K code (rS b d u w s++[(b:aU),(b:aU),(c:aU),(d:aU)]) s.a T o t res;have p:(rS b d u w s).a=s.a:=bX.b j;have G:=k _ p ((bA y).b N);refine At.Tw Z af (ai▸p▸(dw ai (Rs.st (l:=[(b:aU),(b:aU),(c:aU),(d:aU)]) n af))) (Go.of (fH J G.2) (Go.of (j9 (iO (fH J G.2) (hZ A)) af af) ⟨?_,?_⟩))
 ·exact ai▸p▸aS r (ak _ _)
 refine aA (DM (p.h▸r)) ?_;exact U.ret (l:=(b:aU)) (st':=[(d:aU)]) Y (bX.b p).h (λq=>by rw [q] at r;exact bZ r (fL _)) g
end
noncomputable def eD (g:ao aU):ao aU:=g.w 3 (g.l 3 0-1)
noncomputable def eV (ra:aB)(w:aU)(g:ao aU):ao aU:=g.w ra (g.l ra 0*2+w)
noncomputable def qG (ra:aB):aB->aU->ao aU->ao aU
 |0,u,g=>eD (eV ra (4*u) (eD g))
 |n+1,u,g=>eD (eV ra (4*u) (qG ra n (u-1) (eD g)))
noncomputable def qO (ra:aB):aB->aU->ao aU->ao aU
 |0,u,g=>[(qG ra 0 u g).l ra 0]
 |n+1,u,g=>qO ra n (u-1) (eD g)++[(qG ra (n+1) u g).l ra 0]
theorem ME (k u:aU):k*u+u=(k+1)*u:=(aW (k*u+·) (Int.one_mul u)).h.b (Int.add_mul k 1 u).h
theorem gX (g:ao aU):(eD g).a=g.a:=bX
theorem rg (ra:aB)(w:aU)(g:ao aU):(eV ra w g).a=g.a:=bX
theorem sU (ra:aB):∀(n:aB) (u:aU) (g:ao aU),(qG ra n u g).a=g.a:=by
 intro b
 induction b with
 |zero=>
  intro u g;exact (gX _).b ((rg _ _ _).b (gX g))
 |succ n a=>
  intro u g;exact (gX _).b ((rg _ _ _).b ((a (u-1) (eD g)).b (gX g)))
theorem mW {g l:ao aU}(h:i<g.a):(g++l).l i 0=g.l i 0:=by
 exact aA cD (aA cD (aA (cY h) af))
theorem y5 {g l:ao aU}(h:3<g.a):eD (g++l)=eD g++l:=by
 unfold eD;exact aA (mW h) (aA (DM h) af)
theorem Nl {ra:aB}(h:ra<g.a):eV ra w (g++l)=eV ra w g++l:=by
 unfold eV;exact aA (mW h) (aA (DM h) af)
theorem F5:∀{n:aB} {u:aU} {g:ao aU},3<g.a->ra<g.a->qG ra n u (g++l)=qG ra n u g++l:=by
 intro c
 induction c with
 |zero=>
  intro u g h a;show eD (eV ra (4*u) (eD (g++l)))=eD (eV ra (4*u) (eD g))++l;exact aA (y5 h) (aA (Nl (by rw [gX];exact a)) (aA (y5 (by rw [rg,gX];exact h)) af))
 |succ n b=>
  intro u g h a;show eD (eV ra (4*u) (qG ra n (u-1) (eD (g++l))))=eD (eV ra (4*u) (qG ra n (u-1) (eD g)))++l;exact aA (y5 h) (aA (b (by rw [gX];exact h) (by rw [gX];exact a)) (aA (Nl (by rw [sU,gX];exact a)) (aA (y5 (by rw [rg,sU,gX];exact h)) af)))
theorem Wf {ra:aB}:∀{n:aB} {u:aU} {g:ao aU},3<g.a->ra<g.a->qO ra n u (g++l)=qO ra n u g:=by
 intro c
 induction c with
 |zero=>
  intro u g h a;show [(qG ra 0 u (g++l)).l ra 0]=[(qG ra 0 u g).l ra 0];exact aA (F5 h a) (aA (mW (by rw [sU];exact a)) af)
 |succ n b=>
  intro u g h a;show qO ra n (u-1) (eD (g++l))++[(qG ra (n+1) u (g++l)).l ra 0]=qO ra n (u-1) (eD g)++[(qG ra (n+1) u g).l ra 0];exact aA (F5 h a) (aA (mW (by rw [sU];exact a)) (aA (y5 h) (aA (b (by rw [gX];exact h) (by rw [gX];exact a)) af)))
theorem Mj (ra:aB):∀(n:aB) (u:aU) (g:ao aU),(qO ra n u g).a=n+1
 |0,_,_=>af
 |n+1,u,g=>by
  show (qO ra n (u-1) (eD g)++[_]).a=_;refine aA ai ?_;rw [Mj];rfl
section
variable {ra a:aB}{g:ao aU}{w u:aU}
theorem Ec (h:i<g.a):(g.w i v).l i 0=v:=by refine aA cD (aA (gT h) ?_);rfl
theorem Q0 (h:i≠j):(g.w i v).l j 0=g.l j 0:=by refine aA cD ?_;rw [cD,bA h]
theorem AP (c:3<g.a)(b:1<=a)(h:bd a (g.l ra 0)):bd (a+1) ((eD g).l ra 0):=by
 unfold eD;by_cases e:3=ra
 ·subst e;refine aA (Ec c) ?_;exact h.Cu ((AQ af:bd 1 1).le b)
 ·refine aA (Q0 e) ?_;exact h.le (bh _)
theorem Tf (c:ra<g.a)(h:bd a (g.l ra 0))(b:bd (a+2) w):bd (a+3) ((eV ra w g).l ra 0):=by
 unfold eV;refine aA (Ec c) ?_;exact (h.Xz (AQ af:bd 2 2)).Gu b
theorem aam:∀(n:aB) {a:aB} {u:aU} {g:ao aU},3<g.a->ra<g.a->1<=a->bd a (g.l ra 0)->bd a u->bd (a+5*(n+1)) ((qG ra n u g).l ra 0):=by
 intro k
 induction k with
 |zero=>
  intro a u g h d c j b;exact AP (by rw [rg,gX];exact h) (aF 1 _) (Tf (by rw [gX];exact d) (AP h c j) (show bd (a+3) (4*u) from ((AQ af:bd 3 4).Xz b).le (aV (cv 3 a))))
 |succ n f=>
  intro a u g h d c j b;have i:=f (by rw [gX];exact h) (by rw [gX];exact d) (aF 1 a) (AP h c j) (b.Cu ((AQ af:bd 1 1).le c));have e:a+1+5*(n+1)+3+1=a+5*(n+1+1):=aW (·+4) (bo a 1 (5*(n+1)));refine dw e (AP (by rw [rg,sU,gX];exact h) (aF 1 _) (Tf (by rw [sU,gX];exact d) i ((show bd (a+3) (4*u) from ((AQ af:bd 3 4).Xz b).le (aV (cv 3 a))).le ?_)));exact aj (ak (a+1) (5*(n+1))) 2
end
structure QC (code:ao In)(S:cG):Prop where
 r:RC code S
 x:eR nX [SJ,t7,S] 0=ah (2,.b 3)
 q:eR nQ [t7,S] 0=ah (1,.c 1 qP)
 c:∃pb m1 m2 m3 pe,At code [t7,S] 6 pb (.ip nR [.g nW]) m1/\At code [t7,S] 6 m1 qIf m2/\At code [t7,S] 6 m2 (.ip nR [.g nV]) m3/\At code [t7,S] 6 m3 (.R (.g nV)) pe/\code[pe]?=ah .e/\
  ∀{K:aB} {st:ao aU} {b:aB} {o:ao aU} {t:aB} {res:aJ (ao aU)},st.a+1<=900000->U K code (st++[0]) b pb o t res->U K code st b 1 o t res
section
variable {code:ao In}{S:cG}{K:aB}{o:ao aU}{t:aB}{res:aJ (ao aU)}{g:ao aU}{b' ret ra:aB}{u w:aU}{pb m1 m2 m3 pe:aB}
theorem mX (g:ao aU)(b' ret:aB)(u:aU)(ra:aB)(w:aU):(g++fr b' ret u ra w).a=g.a+6:=ai
theorem le6 (a:g.a<=900):(g++fr b' ret u ra w).a<=1000:=by rw [mX];exact ab (aj a 6) (aa af)
theorem Mi (Q:QC code S)(k:At code [t7,S] 6 pb (.ip nR [.g nW]) m1)(e:g.a<=900)(d:3<g.a)(j:jc u=ax)(h:U (K-1) code (eD g++fr b' ret u ra (3*u)) g.a m1 o t res):U K code (g++fr b' ret u ra 0) g.a pb o (t+1) res:=by
 refine At.EB k (l:=0) (a:=2) (q:=[(nZ,ax)]) af (by simp [Ex.i]) (Rs.st (ab e (aa af)) af) (Go.of (a:=[((g.a+5:aB):aU)]) ?_ (bQ g.a af ?_))
 ·show ((zo [t7,S] (g++fr b' ret u ra 0) g.a nW).g λi=>R.e (i:aU)).g _=_;refine aA (fH (sc:=[t7,S]) (st:=g++fr b' ret u ra 0) (b:=g.a) (x:=nW) (l:=0) (a:=5) af af) ?_;rfl
 have c:∀v,(g++fr b' ret u ra 0).w (g.a+5) v=g++fr b' ret u ra v:=λv=>L6 g _ 5 v;have f:rS g.a (g.a+5) u 0 (g++fr b' ret u ra 0)=g++fr b' ret u ra ((0+u)*2+(0+u)):=by
  unfold rS;rw [c];refine aA cD (aA (pS g _ 5) ?_);exact L6 g _ 5 _
 refine SU Q.r Q.x (x:=g.l 3 0) (w:=0) (u:=u) (le6 e) (by rw [mX];exact cA _) (pS g _ 0) (pS g _ 3) (pS g _ 5) (by rw [mX];exact cA _) (by rw [mX];exact aS d (ak _ _)) (dW (cX (aa af))) ?_ ?_ ?_ ?_
 ·rw [c];refine aA cD (aA (pS g _ 5) ?_);show jc (0+u)=ax;rw [jR];exact j
 ·exact aA f (hZ (Eb d))
 ·rw [c];exact pS g _ 5
 ·refine aA f (aA (DM d) ?_);rw [jR,wL u 2,ME];exact h
theorem SV (Q:QC code S)(y:At code [t7,S] 6 m2 (.ip nR [.g nV]) m3)(s:At code [t7,S] 6 m3 (.R (.g nV)) pe)(r:code[pe]?=ah .e)(c:g.a<=900)(d:3<g.a)(b:ra<g.a)(m:jc (g.l ra 0)=ax)(n:o.a<1000)
  (h:U (K-1) code (eD (eV ra (w+u) g)) b' ret (o++[(eD (eV ra (w+u) g)).l ra 0]) t res):U K code (g++fr b' ret u ra w) g.a m2 o (t+1) res:=by
 have j:∀(g:ao aU) (w:aU),zo [t7,S] (g++fr b' ret u ra w) g.a nV=.e ra:=λg w=>xr (l:=0) (a:=4) af af (pS g _ 4);refine At.EB y (l:=0) (a:=2) (q:=[(nZ,ax)]) af (by simp [Ex.i]) (Rs.st (ab c (by decide)) af) (Go.of (a:=[(ra:aU)]) ?_ (bQ g.a af ?_))
 ·show ((zo [t7,S] (g++fr b' ret u ra w) g.a nV).g λi=>R.e (i:aU)).g _=_;rw [j];rfl
 have e:∀v,(g++fr b' ret u ra w).w (g.a+5) v=g++fr b' ret u ra v:=λv=>L6 g _ 5 v;have k:rS g.a ra u w (g++fr b' ret u ra w)=eV ra (w+u) g++fr b' ret u ra (w+u):=by
  unfold rS;rw [e];refine aA (mW b) (aA (DM b) ?_);rfl
 have f:3<(eV ra (w+u) g).a:=by rw [rg];exact d
 refine SU Q.r Q.x (x:=(eV ra (w+u) g).l 3 0) (w:=w) (u:=u) (le6 c) (by rw [mX];exact cA _) (pS g _ 0) (pS g _ 3) (pS g _ 5) (by rw [mX];exact aS b (ak _ _)) (by rw [mX];exact aS d (ak _ _)) (b5 b) ?_ ?_ ?_ ?_
 ·rw [e];refine aA (mW b) ?_;exact m
 ·refine aA k ?_;exact hZ (Eb f)
 ·rw [e];exact pS g _ 5
 ·refine aA k (aA (DM f) ?_);show U (K-1) code (eD (eV ra (w+u) g)++fr b' ret u ra (w+u)) g.a m3 o t res;rw [← (show (eD (eV ra (w+u) g)).a=g.a from (gX _).b (rg _ _ _))] at c b d ⊢;generalize eD (eV ra (w+u) g)=p at *;refine At.A4 s af (Rs.st (ab c (by decide)) af) (cH n (aa af)) (Go.of (iO (j p (w+u)) (hZ (Eb b))) ?_);exact U.ret (l:=0) (st':=[u,(ra:aU),w+u]) r af (dW (aQ (bG _) d)) h
theorem Qd (Q:QC code S)(p:At code [t7,S] 6 m1 qIf m2)(f:g.a<=900)(j:¬ u>1->U K code (g++fr b' ret u ra w) g.a m2 o (t+1) res)(h:u>1->U (K-1) code ((g++fr b' ret u ra w)++[0,(g.a:aU),(m2:aU)]++[u-1,(ra:aU)]) (g.a+6) 1 o t res):U K code (g++fr b' ret u ra w) g.a m1 o (t+1) res:=by
 refine bf (At.if1 p af) λq n m=>?_;have d:kY [t7,S] (g++fr b' ret u ra w) g.a (.g nU)=.e u:=iO (fH (l:=0) (a:=3) af af) (pS g _ 3);have c:∀{k:aB},k<=100->Rs (g++fr b' ret u ra w).a k:=λe=>cK (ab (aL (le6 f) (aj e 10)) (aa af));refine m (c (show 4<=100 by decide)) (Go.of (j9 d af (F2 4 u 1)) ⟨λb=>j (cV (sy.1 b)),λb=>?_⟩);refine At.EB n Q.q (by simp [Ex.i];rfl) (c (show 6<=100 by decide)) (Go.of (a:=[u-1,(ra:aU)]) ?_ (bQ 0 (Co (pS g _ 0)) ?_))
 ·show (kY [t7,S] (g++fr b' ret u ra w) g.a (.c hU (.g nU) (.h 1))).g _=_;refine aA (j9 d af af) ?_;show (((zo [t7,S] (g++fr b' ret u ra w) g.a nV).g λi=>R.e (i:aU)).g _).g _=_;refine aA (xr (l:=0) (a:=4) af af (pS g _ 4)) ?_;rfl
 ·rw [mX];exact h (aX (sy.2 b))
theorem Hu (Q:QC code S):∃pb m1 m2 m3 pe,At code [t7,S] 6 pb (.ip nR [.g nW]) m1/\At code [t7,S] 6 m1 qIf m2/\At code [t7,S] 6 m2 (.ip nR [.g nV]) m3/\At code [t7,S] 6 m3 (.R (.g nV)) pe/\code[pe]?=ah .e/\
  ∀{K:aB} {g:ao aU} {b' ret ra:aB} {u:aU} {o:ao aU} {t:aB} {res:aJ (ao aU)},g.a<=900->U K code (g++fr b' ret u ra 0) g.a pb o t res->U K code (g++[0,(b':aU),(ret:aU)]++[u,(ra:aU)]) g.a 1 o t res:=by
 refine gl ?_;intro j;obtain ⟨pb,m1,m2,m3,pe,i,f,e,d,c,b⟩:=Q.c;refine ⟨pb,m1,m2,m3,pe,i,f,e,d,c,fun {K g b' ret ra u o t res} a h=>b ?_ ?_⟩
 ·rw [ag];refine aA ai ?_;exact ab (aj (aj a 5) 1) (aa af)
 ·rw [ag,ag];exact h
theorem aak (Q:QC code S):∀(n:aB) {a K b' ret ra:aB} {u:aU} {g o:ao aU} {t:aB},(match n with
   |0=>¬ u>1
   |n+1=>u=((n+2:aB):aU))->g.a+6*n<=900->3<g.a->ra<g.a->1<=a->bd a (g.l ra 0)->bd a u->a+6*(n+1)<=900->o.a+n<1000->
   U (K-(3*n+2)) code (qG ra n u g) b' ret (o++qO ra n u g) t res->U K code (g++[0,(b':aU),(ret:aU)]++[u,(ra:aU)]) g.a 1 o (t+(3*n+2)) res:=by
 refine gl ?_;intro M;obtain ⟨pb,m1,m2,m3,pe,F,D,C,B,A,z⟩:=Hu Q;intro n
 induction n with
 |zero=>
  intro a K b' ret ra u g o t k e b d p v f j s h;have j:a+6<=900:=j;have l:(eD g).a=g.a:=gX g;refine z e (Mi Q F e b (f.nT (ab (ak a 6) (ab j (by decide)))) (t:=t+1) ?_);have r:=AP b p v;rw [← l] at e d b ⊢;have h:U (K-2) code (eD (eV ra (4*u) (eD g))) b' ret (o++[(eD (eV ra (4*u) (eD g))).l ra 0]) t res:=h;generalize eD g=i at *;have x:3*u+u=4*u:=ME 3 u;have h:=x▸h;refine Qd Q D e (λ_=>SV Q C B A e b d (r.nT (ab (ar (by decide:1<=6) a) (ab j (by decide)))) s ?_) λq=>bZ q k;rw [sC];exact h
 |succ n I=>
  intro a K b' ret ra u g o t k e b d p v f j s h;have e:g.a+6*(n+1)<=900:=e;have c:g.a<=900:=ab (ak _ _) e;have l:(eD g).a=g.a:=gX g;refine z c (Mi Q F c b (f.nT (ab (ak a _) (ab j (by decide)))) (t:=t+(3*n+4)) ?_);have r:=AP b p v;have G:=aam n (by refine aA l ?_;exact b) (aA l d) (aF 1 a) r (u:=u-1) (f.Cu ((AQ af:bd 1 1).le p));have h:U (K-(3*n+5)) code (eD (eV ra (4*u) (qG ra n (u-1) (eD g)))) b' ret (o++(qO ra n (u-1) (eD g)++[(eD (eV ra (4*u) (qG ra n (u-1) (eD g)))).l ra 0])) t res:=h;rw [← l] at e c d b ⊢;generalize eD g=i at *;have x:3*u+u=4*u:=ME 3 u;rw [← x] at h;have k:u=((n+2:aB):aU):=k;refine Qd Q D c (λq=>bZ (show u>1 by refine aA k ?_;exact cM.i (aF 2 n)) q) λ_=>?_;refine dw (mX i b' ret u ra (3*u)) ?_;have w:=mX i b' ret u ra (3*u);have y:u-1=((n+1:aB):aU):=by refine aA k ?_;exact cT ((n+1:aB):aU) 1
  have J:t+(3*n+3)=t+1+(3*n+2):=(bo t 1 (3*n+2)).h;show U (K-1-1) code _ _ 1 o (t+(3*n+3)) res;refine aA J ?_;have m:=ab (ab (aV (bo a 1 _)) (ar (ar (aa af:1<=6) (6*(n+1))) a)) j;refine I (a:=a+1) (g:=i++fr b' ret u ra (3*u)) ?_ (by refine aA w ?_;exact ab (aV (by rw [bW];exact aW (i.a+·) (cv 6 (6*n)))) e) (by refine aA w ?_;exact aS b (ak _ _)) (by refine aA w ?_;exact aS d (ak _ _)) (aF 1 a) (aA (mW d) r) (f.Cu ((AQ af:bd 1 1).le p)) m (Nat.lt_of_succ_lt s) ?_
  ·cases n with
   |zero=>refine aA y ?_;decide
   |succ n=>exact y
  ·refine aA (F5 b d) (aA (Wf b d) ?_);rw [← (show (qG ra n (u-1) i).a=i.a from sU ra n _ i)] at c b d ⊢;have H:(o++qO ra n (u-1) i).a<1000:=by refine aA ai ?_;rw [Mj];exact s
   rw [← ag] at h;generalize qG ra n (u-1) i=N at *;refine SV Q C B A c b d (G.nT (ab (ar (jF (n+1) (aa af:5<=6)) _) (ab m (aa af)))) H ?_;have L:K-1-1-(3*n+2)-1=K-(3*n+5):=(sC (K-2) (3*n+2) 1).b ((sC K 2 (3*n+3)).b (aW (K-·) (cv 2 (3*n+3))));refine aA L ?_;exact h
theorem We (Q:QC code S):∀(n:aB) {K b' ret ra:aB} {u:aU} {g o:ao aU} {t:aB},u=((n+1:aB):aU)->K<=2*(n+1)->bd 900 u->g.a+3*K<=900->3<g.a->
   U K code (g++[0,(b':aU),(ret:aU)]++[u,(ra:aU)]) g.a 1 o t aq:=by
 refine gl ?_;intro z;obtain ⟨pb,m1,m2,m3,pe,p,v,y,B,A,m⟩:=Hu Q;intro n
 induction n with
 |zero=>
  intro K b' ret ra u g o t f j c h e;have b:g.a<=900:=ab (ak _ _) h;have w:(eD g).a=g.a:=gX g;refine m b (U.XE (Mi Q p b e (c.nT (by decide)) (t:=1) ?_) t);rw [← w] at b ⊢;generalize eD g=d at *;refine Qd Q v b (λ_=>?_) λq=>bZ q (by refine aA f ?_;decide);refine At.EB y (l:=0) (a:=2) (q:=[(nZ,ax)]) af (by simp [Ex.i]) (Rs.st (ab b (aa af)) af) (Go.of (a:=[(ra:aU)]) ?_ (bQ d.a af ?_))
  ·show ((zo [t7,S] (d++fr b' ret u ra (3*u)) d.a nV).g λi=>R.e (i:aU)).g _=_;refine aA (xr (l:=0) (a:=4) af af (pS d _ 4)) ?_;rfl
  ·refine aA (show K-1-1=0 from hW (mm j)) ?_;exact U.Gy
 |succ n x=>
  intro K b' ret ra u g o t f j c h e;have b:g.a<=900:=ab (ak _ _) h;by_cases s:K<=1
  ·refine m b (U.XE (Mi Q p b e (c.nT (by decide)) (t:=1) ?_) t);exact aA (hW s) U.Gy
  refine m b (U.XE (Mi Q p b e (c.nT (by decide)) (t:=1) ?_) t);rw [← (gX g)] at h b e ⊢;generalize eD g=d at *;refine Qd Q v b (λq=>bZ (show u>1 by refine aA f ?_;exact cM.i (aF 2 n)) q) λ_=>?_;have k:=mX d b' ret u ra (3*u);refine dw k ?_;have r:u-1=((n+1:aB):aU):=by refine aA f ?_;exact cT ((n+1:aB):aU) 1
  refine x r (mm (mm j)) ?_ (aA k (ab (aV ((bW _ _ _).b (aW (d.a+·) ((aW (6+·) (Nat.mul_sub 3 K 2)).b (gF (bP 3 (Nat.not_le.g s))))))) h)) (aA k (aS e (ak _ _)));have:(u-1).o<=u.o:=by refine aA r (aA f ?_);exact bh (n+1)
  exact aQ this c
end
noncomputable def SO:St:=.ti nY (.g nX) (.h 1) aw (.vM (.E (.R (.c yC (.g nY) (.g nY))) (.nh (.U nY (.h 0)))))
noncomputable def sB:Bl:=.e [(nY,aq)] .h (.nh SO)
noncomputable def Z0:cG:=[(nY,.b 3)]
structure SC (code:ao In)(S:cG):Prop where
 x:eR nX [Z0,S] 0=ah (1,.b 3)
 a:∃pb pe,At code [Z0,S] 4 pb SO pe/\code[pe]?=ah .e/\∀{K:aB} {st:ao aU} {b:aB} {o:ao aU} {t:aB} {res:aJ (ao aU)},st.a+1<=900000->U K code (st++[0]) b pb o t res->U K code st b 1 o t res
theorem Rs.two (h:Rs n 2):Rs (n+2) 0:=by unfold Rs;rw [bW];exact h
section
variable {code:ao In}{S:cG}{K:aB}{o:ao aU}{t:aB}{res:aJ (ao aU)}{g:ao aU}{b' ret:aB}
theorem SM (Q:SC code S)(p:g.a<=900)(F:3<g.a)(B:g[3]?=ah x)(C:j<=18)(d:o.a<=900)(e:∀i:aB,i<j->bd 400 (Hl aw x i))(c:TH (λv=>zZ aw v 1) aw K x j)
  (h:U (K-(j+1)) code g b' ret (o++(fl aw x j).d λi=>i*i) t res):U K code (g++[0,(b':aU),(ret:aU)]) g.a 1 o (t+(j+1)) res:=by
 refine mO Q.a λz P O N M=>?_;refine M (aA ai (ab (aj (aj p 3) 1) (aa af))) ?_;rw [ag];show U K code (g++[0,(b':aU),(ret:aU),0]) g.a z o (t+(j+1)) res;refine gl ?_;intro T;refine By (At.for O af af) λf q w L J s I=>?_;refine bf ((At.beg L).GI) λm H G=>?_;have b:g.a<=10000:=ab p (aa af);refine J (Rs.st b af) (Rs.st b af) (Go.of (a:=x) (iO (fH Q.x (show ∀{l:ao aU},eM (g++(0::l)) 1 g.a=ah 0 from fun {l}=>Co (pS g (0::l) 0))) (hZ B)) (Go.of (a:=1) af ?_));have k:∀(j K:aB) (x:aU) (o:ao aU) (y:aU),(∀i:aB,i<j->bd 400 (Hl aw x i))->TH (λv=>zZ aw v 1) aw K x j->o.a+j<=950->U (K-(j+1)) code g b' ret (o++(fl aw x j).d λi=>i*i) t res->U K code ((g++[0,(b':aU),(ret:aU),y])++[x,1]) g.a f o (t+(j+1)) res:=by
  intro j
  induction j with
  |zero=>
   intro K x o y e c d h;rcases c with c|rfl
   ·refine s ai (Rs.two (Rs.st b af)) (λn=>bZ (n.h.b c) (by decide)) λ_=>?_;have h:U (K-1) code g b' ret (o++[]) t res:=h;rw [bD] at h;exact U.ret (l:=0) (st':=[y]) N af (dW (aQ (bG _) F)) h
   ·exact U.Gy
  |succ j A=>
   intro K x o y e c d h;have d:o.a+(j+1)<=950:=d;have u:bd 400 x:=dw (t5 aw x) (e 0 (cp j));refine s ai (Rs.two (Rs.st b af)) (λ_=>Go.of (a:=g.a+3) (fH (l:=0) (a:=3) af af) ⟨?_,?_⟩) λn=>bZ (c.1.h.b n) (by decide)
   ·exact aA ai (tq (by decide:3<6) _)
   rw [ag,L6];show U (K-1) code (g++[0,(b':aU),(ret:aU),x,x,1]) g.a q o (t+(j+1)) res;have r:kY [Z0,S] (g++[0,(b':aU),(ret:aU),x,x,1]) g.a (.g nY)=.e x:=iO (fH (l:=0) (a:=3) af af) (pS g _ 3);refine At.A4 H af (Rs.st b af) (aQ (ab (ak _ _) d) (aa af)) (Go.of (j9 r r (B3 (u.nT (by decide)) (u.nT (by decide)))) ?_);refine At.Tw G.XU af (Rs.st b af) (Go.of (a:=g.a+3) (fH (l:=0) (a:=3) af af) (Go.of (a:=0) af ⟨?_,?_⟩))
   ·refine aA ai ?_;exact tq (by decide:3<6) _
   rw [L6];show U (K-1) code (g++([0,(b':aU),(ret:aU),0]++[x,1])) g.a w (o++[x*x]) (t+(j+1)) res;rw [← ag];refine I ai (Rs.two (Rs.st b af)) (A (K-1) (gN aw x) (o++[x*x]) 0 (λi D=>aA (wc aw x i) (e (i+1) (bL D))) c.2 ?_ ?_)
   ·exact aA ai (ab (aV (gs _ _)) d)
   ·rw [DJ,ag];exact h
 exact k j K x o 0 e c (ab (aL d C) (aa af)) h
end
noncomputable def cl (c:Cs):ao aU:=c.x::c.y::c.c
noncomputable def lM (l:ao aU):ao aU:=0::0::0::l
theorem FY (c:Cs):i9 c []=lM (cl c):=by
 unfold i9;rw [bD];rfl
noncomputable def pX (k:aB)(e:Ee):Ex:=match k with
 |1=>.g nX
 |2=>.g nY
 |_=>.k nA (fJ e.i e.n)
noncomputable def Em (k:aB)(e:Ee):St:=match k with
 |0=>.ip nS []
 |_=>.ip nQ [fJ e.l e.n,pX k e]
noncomputable def pI (k:aB)(e:Ee)(c:Cs):aB:=match k with
 |1=>0
 |2=>1
 |_=>(d8 e.i e.n c).p+2
noncomputable def lR (k:aB)(e:Ee)(c:Cs):bC:=aM k 3&&!sX (d8 e.i e.n c) c
noncomputable def lv:aB->aU->ao aU
 |0,u=>[u]
 |n+1,u=>lv n (u-1)++[u]
noncomputable def D3 (u:aU):aB:=(jd u 7-1).p
theorem MK (u:aU):D3 u<=6:=i5.i (Int.sub_right_le_of_le_add (iK u 7))
theorem aaz (h:u<=7):match D3 u with
  |0=>¬ u>1
  |n+1=>u=((n+2:aB):aU):=by
 have:D3 u=(u-1).p:=by unfold D3;rw [eW h]
 refine aA this ?_;cases a:(u-1).p with
 |zero=>exact dQ.i (Int.le_of_sub_nonpos (wK.g a))
 |succ n=>
  have p:¬ u-1<=0:=λq=>by have a:=wK.i q▸a;injection a
  have e:=iI (i7 (fP.g p));rw [a] at e;exact rT.g e.h
theorem Wt (h:¬ u<=7):∃n:aB,u=((n+1:aB):aU)/\7<=n:=by
 have h:=fP.g h;obtain ⟨k,rfl⟩:=dn (ee (by decide) (i7 h));have h:=cM.g h;exact bQ (k-1) (aA (uR (ab (aa af) h)) af) (Nat.le_sub_one_of_lt h)
noncomputable def lV (u:aU):ao aU:=lv (D3 u) (jd u 7)
noncomputable def qS (p:aB)(t:aU)(l:ao aU):ao aU:=(l.w p (l.l p 0*2+4*t)).w 0 ((l.w p (l.l p 0*2+4*t)).l 0 0-1)
noncomputable def F4 (p:aB):ao aU->ao aU->ao aU
 |[],l=>l
 |t::a,l=>F4 p a (qS p t l)
noncomputable def DR (p:aB):ao aU->ao aU->ao aU
 |[],_=>[]
 |t::a,l=>(qS p t l).l p 0::DR p a (qS p t l)
noncomputable def uJ (k:aB)(l:ao aU):ao aU:=l.w 0 (l.l 0 0-k)
noncomputable def EH (c:Cs):ao aU:=(fl aw (jd c.x 18) (jd c.x 18).p).d λi=>i*i
noncomputable def dC (k:aB)(e:Ee)(c:Cs):ao aU:=match k with
 |0=>cl c
 |_=>(match lR k e c with
  |true=>cl c
  |false=>F4 (pI k e c) (lV (d8 e.l e.n c)) (uJ (lV (d8 e.l e.n c)).a (cl c)))
noncomputable def dO (k:aB)(e:Ee)(c:Cs):ao (aJ aU):=match k with
 |0=>(EH c).d ah
 |_=>(match lR k e c with
  |true=>[aq]
  |false=>(DR (pI k e c) (lV (d8 e.l e.n c)) (uJ (lV (d8 e.l e.n c)).a (cl c))).d ah)
noncomputable def dN (k:aB)(e:Ee)(c:Cs):aB:=match k with
 |0=>(EH c).a+2
 |_=>(match lR k e c with
  |true=>1
  |false=>3*(lV (d8 e.l e.n c)).a)
theorem yW:∀(n:aB) (u:aU),(lv n u).a=n+1:=by
 intro b
 induction b with
 |zero=>
  intro _;exact af
 |succ n a=>
  intro u;show (lv n (u-1)++[u]).a=_;refine aA ai ?_;rw [a];rfl
theorem Qg (p:aB)(t:aU):∀(ts l:ao aU),F4 p (ts++[t]) l=qS p t (F4 p ts l)/\DR p (ts++[t]) l=DR p ts l++[(qS p t (F4 p ts l)).l p 0]:=by
 intro b
 induction b with
 |nil=>
  intro l;exact ⟨af,af⟩
 |cons s ts a=>
  intro l;exact ⟨(a (qS p s l)).1,aW (_::·) (a (qS p s l)).2⟩
theorem adA (l:ao aU):eD (lM l)=lM (uJ 1 l):=af
theorem ac3 (p:aB)(t:aU)(l:ao aU):eD (eV (p+3) (4*t) (lM l))=lM (qS p t l):=af
theorem Rj (k:aB)(h:0<l.a):uJ k (uJ 1 l)=uJ (k+1) l:=by
 cases l with
 |nil=>cases h
 |cons a l=>
  show (a-(1:aB)-(k:aU))::l=(a-((k+1:aB):aU))::l;rw [zg];exact aA (show ((1:aB):aU)+(k:aU)=((k+1:aB):aU) from iy 1 k) af
theorem ac4 (p:aB):∀(n:aB) (u:aU) (l:ao aU),0<l.a->qG (p+3) n u (lM l)=lM (F4 p (lv n u) (uJ (n+1) l))/\qO (p+3) n u (lM l)=DR p (lv n u) (uJ (n+1) l):=by
 intro c
 induction c with
 |zero=>
  intro u l h;exact ⟨af,af⟩
 |succ n b=>
  intro u l h;have i:=b (u-1) (uJ 1 l) (by unfold uJ;refine aA bX ?_;exact h);rw [Rj (n+1) h] at i;have a:=Qg p u (lv n (u-1)) (uJ (n+1+1) l);show eD (eV (p+3) (4*u) (qG (p+3) n (u-1) (eD (lM l))))=lM (F4 p (lv n (u-1)++[u]) (uJ (n+1+1) l))/\qO (p+3) n (u-1) (eD (lM l))++[(eD (eV (p+3) (4*u) (qG (p+3) n (u-1) (eD (lM l))))).l (p+3) 0]=DR p (lv n (u-1)++[u]) (uJ (n+1+1) l);rw [adA,i.1,i.2,ac3,a.1,a.2];exact ⟨af,af⟩
theorem Rl (h:f<t)(res:aJ (ao aU)):HY t f res=aq:=by
 unfold HY;exact aA (show bM t f=aw from b6.i λq=>bZ (aa q) (qi h)) af
section
variable {code:ao In}{S:cG}{K:aB}{o:ao aU}{t:aB}{res:aJ (ao aU)}{c:Cs}{e:Ee}{z p pc pc':aB}
theorem U.big (h:K<=t)(g:U K code st b pc o t aq):U K code st b pc o t res:=λf a=>by
 have:=g f a;rw [Rl (aS a h)] at this ⊢;exact this
theorem MA:∀(vs o:ao aU),Ou o (vs.d ah) k res->k (o++vs):=by
 intro b
 induction b with
 |nil=>
  intro o h;exact aA (bD o) h
 |cons v vs a=>
  intro o h;have:=a (o++[v]) h;rw [ag] at this;exact this
theorem Jw (Q:SC code S)(v:eR nS [S] 0=ah (0,.c 1 []))(u:c.c.a=z)(A:z<=3)(B:bd 200 c.x)(n:K<=17)(h:At code [S] (5+z) pc (.ip nS []) pc')(w:o.a<=800)
  (g:U (K-((EH c).a+2)) code (lM (cl c)) 0 pc' (o++EH c) t res):U K code (i9 c []) 0 pc o (t+((EH c).a+2)) res:=by
 have y:(i9 c []).a<=900:=by
  show (c.c++[]).a+5<=900;rw [bD,u];exact ab (aj A 5) (aa af)
 have s:3<(i9 c []).a:=aS (aa af) (aF 5 _);have R:Rs (i9 c []).a 0:=Rs.m (u▸A) (aa af) (bG _);have q:(EH c).a=(jd c.x 18).p:=by unfold EH;rw [ay,q8]
 have C:∀i:aB,i<=18->bd 400 (Hl aw c.x i):=λi b=>(sS (p:=200) (aa af) (B.le (aa af)) b aw).le (aa af);by_cases l:c.x<=18
 ·have k:jd c.x 18=c.x:=eW l;have f:c.x.p<=18:=i5.i l;refine At.EB h v (λe m=>bZ m dm) R (Go.of (a:=[]) af ⟨0,af,?_⟩);rw [bD];have D:t+((EH c).a+1)=t+(c.x.p+1):=by rw [q,k]
  show U (K-1) code _ _ 1 o (t+((EH c).a+1)) res;rw [D];refine SM Q y s (x:=c.x) af f (ab w (by decide)) (λi b=>C i (ab (dK b) f)) (Av _ _ _ (λi b=>?_) (.C ?_)) ?_
  ·exact bF (Int.sub_pos_of_lt (Int.lt_toNat.g b):0<c.x-(i:aU))
  ·exact bR (fP.i (n7 (mn (Int.self_le_toNat c.x)) (by decide)))
  ·rw [q,k] at g;have d:EH c=(fl aw c.x c.x.p).d λi=>i*i:=by unfold EH;rw [k]
   rw [d] at g;rw [DJ,FY];exact g
 ·have k:jd c.x 18=18:=gi (i7 (fP.g l));have r:(EH c).a=18:=by refine aA q (aA k ?_);rfl
  refine aA r ?_;refine U.big (ab n (ab (aa af) (aF 20 t))) (At.EB (t:=t+19) h v (λe m=>bZ m dm) R (Go.of (a:=[]) af ⟨0,af,?_⟩));rw [bD];refine SM (j:=18) Q y s (x:=c.x) af (au _) (ab w (by decide)) (λi b=>C i (dK b)) (Av _ _ _ (λi b=>?_) (.y (ab (fO _ _) (ab n (aa af))))) ?_
  ·exact bF (Int.sub_pos_of_lt (EY (cM.i b) (fP.g l)):0<c.x-(i:aU))
  ·refine aA (show K-1-(18+1)=0 from hW (ab (fO _ _) (ab n (aa af)))) ?_;exact U.Gy
theorem RB (V:MV S z)(j:c.c.a=z)(q:0<z)(E:Eo' e)(n:p<=190)(B:Bd p p p c)(b:1<=k)(o:k<4):(lR k e c=ax->ot [S] (i9 c []) 0 [aw,ax] [fJ e.l e.n,pX k e]=.i)/\(lR k e c=aw->ot [S] (i9 c []) 0 [aw,ax] [fJ e.l e.n,pX k e]=.e [d8 e.l e.n c,((pI k e c+3:aB):aU)]/\pI k e c<(cl c).a/\bd p ((cl c).l (pI k e c) 0)):=by
 have l:=AS (tmp:=[]) V j q B (ab n (aa af)) E.n;have a:∀{m:R aB},Q7 [S] (i9 c []) 0 (pX k e)=m->ot [S] (i9 c []) 0 [aw,ax] [fJ e.l e.n,pX k e]=m.g λi=>.e [d8 e.l e.n c,(i:aU)]:=fun {m} h=>by
  show (kY [S] (i9 c []) 0 (fJ e.l e.n)).g _=_;rw [l];show (((Q7 [S] (i9 c []) 0 (pX k e)).g λi=>R.e (i:aU)).g _).g _=_;refine aA h ?_;cases m<;>rfl
 revert b a;refine YQ o ?_ ?_ ?_ ?_
 ·intro b a;refine gl ?_;intro r;cases b
 ·intro b a;exact ⟨λh=>aR h,λy=>dX (a (fH V.x af)) (eY _) B.x⟩
 ·intro b a;exact ⟨λh=>aR h,λy=>dX (a (fH V.y af)) (bL (eY _)) B.y⟩
 ·intro b a;have s:Q7 [S] (i9 c []) 0 (pX 3 e)=(match sX (d8 e.i e.n c) c with
   |true=>.e ((d8 e.i e.n c).p+5)
   |false=>.i):=by
   show HR [S] (i9 c []) 0 nA (kY [S] (i9 c []) 0 (fJ e.i e.n))=_;rw [l];unfold HR sX;refine aA V.a (aA j ?_);show (match bg (0<=d8 e.i e.n c/\d8 e.i e.n c<(z:aU)) with
    |true=>(Mn (i9 c []) 0 0 5).g λk=>R.e ((d8 e.i e.n c).p+k)
    |false=>.i)=_
   refine gl ?_;intro r;cases bg (0<=d8 e.i e.n c/\d8 e.i e.n c<(z:aU))<;>rfl
  have f:=a s;show ((!sX (d8 e.i e.n c) c)=ax->_)/\((!sX (d8 e.i e.n c) c)=aw->_);cases d:sX (d8 e.i e.n c) c with
  |false=>rw [d] at f;exact ⟨λy=>f,λh=>aR h⟩
  |true=>
   have f:=d▸f;have d:=aX d;have g:(d8 e.i e.n c).p<c.c.a:=(nu d.1).i d.2;refine ⟨λh=>aR h,λy=>dX f (bL (bL g)) ?_⟩;show bd p (c.c.l (d8 e.i e.n c).p 0);refine aA cD (aA (bV g) ?_);exact B.a _ (List.getElem_mem g)
theorem Jx (V:MV S z)(Q:QC code S)(C:eR nQ [S] 0=ah (0,.c 1 qP))(m:c.c.a=z)(O:0<z)(D:z<=3)(E:Eo' e)(I:1<=p)(r:p<=190)(B:Bd p p p c)(w:K<=17)(v:1<=k)(N:k<4)(h:At code [S] (5+z) pc (.ip nQ [fJ e.l e.n,pX k e]) pc')(J:o.a<=800)
  (g:Ou o (match lR k e c with
   |true=>[aq]
   |false=>(DR (pI k e c) (lV (d8 e.l e.n c)) (uJ (lV (d8 e.l e.n c)).a (cl c))).d ah) (λo=>U (K-(match lR k e c with
   |true=>1
   |false=>3*(lV (d8 e.l e.n c)).a)) code (lM (match lR k e c with
   |true=>cl c
   |false=>F4 (pI k e c) (lV (d8 e.l e.n c)) (uJ (lV (d8 e.l e.n c)).a (cl c)))) 0 pc' o t res) res):U K code (i9 c []) 0 pc o (t+(match lR k e c with
   |true=>1
   |false=>3*(lV (d8 e.l e.n c)).a)) res:=by
 have A:=RB V m O E r B v N;have s:(i9 c []).a<=8:=by
  show (c.c++[]).a+5<=8;rw [bD];refine aA m ?_;exact aj D 5
 have l:3<(i9 c []).a:=aS (aa af) (aF 5 _);have W:∀x∈[fJ e.l e.n,pX k e],x.i=ax:=by
  intro x q;rcases cz.g q with rfl|q
  ·exact (kZ _ _).1
  ·refine aA (a6.g q) ?_;unfold pX;split
   ·rfl
   ·rfl
   ·exact (kZ _ _).1
 have F:(pX k e).j<=12:=by
  unfold pX;split
  ·exact (by decide:2<=12)
  ·exact (by decide:2<=12)
  ·exact aj (kZ e.i e.n).2 4
 have R:Rs (i9 c []).a (SE [fJ e.l e.n,pX k e]):=Rs.m (aA m D) (aa af) (ab (aL (kZ e.l e.n).2 F) (aa af));cases i:lR k e c with
 |true=>
  rw [i] at g;refine At.EB h C W R ?_;show Go (ot [S] (i9 c []) 0 [aw,ax] _) _ _;exact aA (A.1 i) g
 |false=>
  rw [i] at g;refine vf (A.2 i) λy H Y=>?_;have g:=MA _ _ g;have j:bd (p+2) (d8 e.l e.n c):=qf B E.n (au _) (ak _ _) _ (.C E.l);have b:∀{t:aB} {res:aJ (ao aU)},U (K-1) code (lM (cl c)++[0,((0:aB):aU),(pc':aU)]++[d8 e.l e.n c,((pI k e c+3:aB):aU)]) (lM (cl c)).a 1 o t res->U K code (i9 c []) 0 pc o (t+1) res:=λu=>At.EB h C W R (Go.of y (bQ 0 af (aA (FY c) u)));have X:(lV (d8 e.l e.n c)).a=D3 (d8 e.l e.n c)+1:=yW _ _;show U K code (i9 c []) 0 pc o (t+3*(lV (d8 e.l e.n c)).a) res;have g:U (K-3*(lV (d8 e.l e.n c)).a) code (lM (F4 (pI k e c) (lV (d8 e.l e.n c)) (uJ (lV (d8 e.l e.n c)).a (cl c)))) 0 pc' (o++DR (pI k e c) (lV (d8 e.l e.n c)) (uJ (lV (d8 e.l e.n c)).a (cl c))) t res:=g;rw [X] at g ⊢;rw [FY] at s l;revert g j b y;unfold lV;generalize d8 e.l e.n c=u;intro y j b g;by_cases f:u<=7
  ·have P:jd u 7=u:=eW f;have d:=MK u;rw [P] at g;have M:=ac4 (pI k e c) (D3 u) u (cl c) (eY _);rw [← M.1,← M.2] at g;refine aA (show t+3*(D3 u+1)=t+(3*D3 u+2)+1 from af) ?_;refine b (aak Q (D3 u) (a:=p+2) (aaz f) (ab (aL s (bP 6 d)) (aa af)) l (jG H 3) (aF 1 _) (Y.le (ak _ _)) j (ab (aL (aj r 2) (bP 6 (az d))) (aa af)) (aQ (aL J d) (aa af)) ?_);have T:K-1-(3*D3 u+2)=K-3*(D3 u+1):=by rw [sC];exact aW (K-·) (cv 1 _)
   refine aA T ?_;exact g
  ·have d:D3 u=6:=by unfold D3;refine aA (gi (i7 (fP.g f))) ?_;rfl
   refine aA d ?_;refine U.big (ab w (ab (aa af) (aF 21 t))) (b (t:=t+20) ?_);refine bf (Wt f) λn L G=>?_;refine We Q n L (ab (Nat.sub_le_sub_right w 1) (bP 2 (az G))) (j.le (ab (aj r 2) (aa af))) (ab (aL s (bP 3 (ab (fO _ _) w))) (aa af)) l
end
noncomputable def qq (k:aB):Bl:=match k with
 |0=>.g nS [] sB .h
 |_=>.g nQ qP qB .h
noncomputable def prE (k:aB):Tx×Sc:=match k with
 |0=>(nS,.c 1 [])
 |_=>(nQ,.c 1 qP)
noncomputable def mS (z k:aB):cG:=[(nX,.b 3),(nY,.b 4),(nA,.e 5 z),prE k]
noncomputable def HD (z:aB):ao (Tx×aJ aB):=[(nX,aq),(nY,aq),(nA,ah z)]
theorem Nc:∀(c a:ao In),s7 (a++c) a.a c:=by
 intro d
 induction d with
 |nil=>
  intro _;exact kN
 |cons i c b=>
  intro a;have:=b (a++[i]);rw [ag,ai] at this;exact ⟨by refine aA (dH (au _)) ?_;rw [k9];rfl,this⟩
theorem mV (z k:aB):MV (mS z k) z:=⟨af,af,af⟩
theorem aai {S:cG}(J:eR nX [SJ,t7,S] 0=ah (2,.b 3))(L:eR nQ [t7,S] 0=ah (1,.c 1 qP))(h:kG [S] 1 qP qB=.e c)(M:s7 code 1 c):QC code S:=by
 refine gl ?_;intro g9;obtain ⟨w,cs,A,z,V,T,m,P,O,N⟩:=uz h M;have k:([(nU,.b 3),(nV,.f 4),(nW,.b 5)],6)=w:=R.e.inj V;subst k;refine bf (R.k T) λc1 I H=>?_;refine bf (R.k H) λc2 j i=>?_;injection j with j;subst j;injection i with i;subst i;obtain ⟨r,ds,a,f,y,e,_,x,v,u⟩:=uz I ((kF m).1);have k:(SJ,4)=r:=R.e.inj y;subst k;injection e with e;subst e;refine bf P.GI λG Z q=>?_;refine bf q.GI λF q p=>?_;refine bf p.GI λD p Y=>?_;refine bf x.GI λC X n=>?_;refine bf n.GI λB n W=>?_;refine ⟨⟨a,C,B,f,X,n,W.XU,v,fun {K s b o t d} l g=>u l ?_⟩,J,L,A,G,F,D,z,Z,q,p,Y.XU,O,λl g=>N l g⟩;show U K code (s++[]) b a o t d;rw [pM];exact g
theorem ZZ {S:cG}(e:eR nX [Z0,S] 0=ah (1,.b 3))(h:kG [S] 1 [] sB=.e c)(k:s7 code 1 c):SC code S:=by
 refine gl ?_;intro p;obtain ⟨w,q,d,b,o,a,j,n,m,l⟩:=uz h k;have f:(Z0,4)=w:=R.e.inj o;subst f;injection a with a;subst a;exact ⟨e,d,b,n.XU,m,λi g=>l i g⟩
section
variable {code:ao In}{z k:aB}{row:St}
theorem Jq (l:z<3)(A:k<4)(h:kG [] 0 [] (.e (HD (z+1)) (qq k) row)=.e code):∃d e,At code [mS (z+1) k] (5+(z+1)) d row e/\code[e]?=ah .e/\(k=0->SC code (mS (z+1) k))/\(k≠0->QC code (mS (z+1) k))/\
  ∀{K:aB} {t:aB} {res:aJ (ao aU)},U K code (i9 ⟨0,0,cZ (z+1) 0⟩ []) 0 d [] t res->U K code [0,0,0] 0 0 [] t res:=by
 obtain ⟨w,B,d,e,u,o,f,n,m,s⟩:=uz h (Nc _ []);have r:([(nX,.b 3),(nY,.b 4),(nA,.e 5 (z+1))],5+(z+1))=w:=R.e.inj u;subst r;have p:∀{K:aB} {t:aB} {res:aJ (ao aU)},U K code (i9 ⟨0,0,cZ (z+1) 0⟩ []) 0 d [] t res->U K code [0,0,0] 0 0 [] t res:=fun {K t res} g=>by
  refine s (b:=0) ?_ ?_
  ·match z,l with
   |0,_=>exact (aa af)
   |1,_=>exact (aa af)
   |2,_=>exact (aa af)
  ·match z,l with
   |0,_=>exact g
   |1,_=>exact g
   |2,_=>exact g
 match k with
 |0=>
  refine gl ?_;intro v;refine bf (R.k o) λy j i=>?_;obtain ⟨x,c,a⟩:=R.k i;injection c with c;subst c;injection a with a;subst a;exact U0 d e n m (λ_=>ZZ af j (kF f).1) (λq=>bZ af q) p
 |k+1=>
  refine gl ?_;intro v;refine bf (R.k o) λy j i=>?_;refine bf (R.k i) λx c a=>?_;injection c with c;subst c;injection a with a;subst a;exact U0 d e n m (λq=>(by injection q)) (λ_=>aai af af j (kF f).1) p
theorem AJ (z k:aB)(row:St):rk (AG [mS (z+1) k] row) (kG [] 0 [] (.e (HD (z+1)) (qq k) row)):=by
 refine C5 k ?_ λk=>?_
 ·exact (me [mS (z+1) 0] row _ _).Cv
 ·exact (me [mS (z+1) (k+1)] row _ _).Cv
end
theorem Qy (E:Eo' e):∀(j:aB) (v:aU) (c:Cs),LB f p c->(∀i:aB,i<j->bd (p+3) (Hl up v i))->LB f p (JS f e c (fl up v j))/\(JS f e c (fl up v j)).c.a=c.c.a/\(Jr f e c (fl up v j)).a<=j:=by
 intro d
 induction d with
 |zero=>
  intro _ _ h _;exact dX h af (au _)
 |succ j a=>
  intro v c h b;have i:=a (gN up v) (ow f e (kM c v)) ((h.Tv (show bd (p+3) v from dw (t5 up v) (b 0 (cp j)))).do E) λi g=>aA (wc up v i) (b (i+1) (bL g));refine dX i.1 (i.2.1.b (wY f e (kM c v)).2) ?_;show (sZ f e (kM c v)++_).a<=_;refine aA ai ?_;exact ab (aL (ou _ _ _) i.2.2) (aV (cv 1 j))
theorem Hj (E:Eo' e)(g:3<=p)(B:Bd p p p c)(t:k<7)(w:f<4):(∃b,LB b p (VX k f q m e c))/\(VX k f q m e c).c.a=c.c.a/\(Yi k f q m e c).a<=18:=by
 have L:∀f,LB f p c:=λf=>LB.of B;have d:=λf=>((dX ⟨f,(L f).do E⟩ ((wY f e c).2) (ab (ou f e c) (aa af))):(∃b,LB b p (ow f e c))/\(ow f e c).c.a=c.c.a/\(sZ f e c).a<=18);have j:∀a,bd (p+2) (gN a c.x):=λa=>by
  have o:bd p (1:aU):=(AQ af:bd 1 1).le (ab (aa af) g);cases a with
  |true=>exact (B.x.Gu o).le (bh _)
  |false=>exact (B.x.Cu o).le (bh _)
 have l:bd (p+2) (d8 e.l e.n c):=qf B E.n (au _) (ak _ _) _ (.C E.l);have h:=λ(a:bC) (v:aU) (n:aU) (s:bd (p+2) v)=>by
  have i:=Qy (f:=f) (p:=p) E (up:=a) (jj n) v c (L f) λi u=>sS g s (ab (dK u) (q0 _)) a;exact ((dX ⟨f,i.1⟩ i.2.1 (ab i.2.2 (q0 _))):(∃b,LB b p (JS f e c (fl a v (jj n))))/\(JS f e c (fl a v (jj n))).c.a=c.c.a/\(Jr f e c (fl a v (jj n))).a<=18)
 refine X5 t ?_ ?_ ?_ ?_ ?_ ?_ ?_
 ·unfold VX Yi;show (∃b,LB b p (match w0 q e c with|true=>ow f e c|false=>c))/\cC (Cs.c (match w0 q e c with|true=>ow f e c|false=>c))=_/\cC (match w0 q e c with|true=>sZ f e c|false=>[])<=18
  cases w0 q e c with
  |true=>exact d f
  |false=>exact dX ⟨f,L f⟩ af (bG _)
 ·show (∃b,LB b p (match w0 q e c with|true=>ow f e c|false=>ow (3-f) e c))/\cC (Cs.c (match w0 q e c with|true=>ow f e c|false=>ow (3-f) e c))=_/\cC (match w0 q e c with|true=>sZ f e c|false=>sZ (3-f) e c)<=18
  cases w0 q e c with
  |true=>exact d f
  |false=>exact d (3-f)
 ·exact h ax (gN ax c.x) _ (j ax)
 ·exact h aw (gN aw c.x) _ (j aw)
 ·exact h ax (d8 e.l e.n c) _ l
 ·exact h aw (d8 e.l e.n c) _ l
 ·have r:(sZ f e c++sZ (3-f) e (ow f e c)).a<=18:=by
   exact aA ai (ab (aL (ou _ _ _) (ou _ _ _)) (aa af))
  refine dX ?_ ((wY (3-f) e (ow f e c)).2.b (wY f e c).2) r
  match f,w with
  |0,_=>exact (d 3).1
  |1,_=>exact (d 2).1
  |2,_=>exact (d 2).1
  |3,_=>exact (d 3).1
structure Pr where
 z:aB
 k:aB
 m:aB
 n:aB
 E:aB
 H:aB
 L:aB
 I:aB
 M:aB
 q:aB
 w:aB
 e:Ee
 g:Ee
structure Pr.F (P:Pr):Prop where
 z:P.z<3
 k:P.k<4
 m:P.m<6
 n:P.n<5
 Of:P.E<10 ^ 20
 w:P.w<4
 k1:P.H<7
 f1:P.L<4
 k2:P.I<7
 f2:P.M<4
 e:Eo' P.e
 g:Eo' P.g
section
variable (P:Pr)
noncomputable def Pr.V:Cs:=⟨(P.m:aU)-2,P.n,cZ (P.z+1) 0⟩
noncomputable def Pr.c1:Cs:=VX P.H P.L P.q P.w P.e P.V
noncomputable def Pr.U:Cs:=VX P.I P.M P.q P.w P.g P.c1
noncomputable def Pr.l3:ao aU:=dC P.k P.e P.U
noncomputable def Pr.o1:ao (aJ aU):=Yi P.H P.L P.q P.w P.e P.V
noncomputable def Pr.o2:ao (aJ aU):=Yi P.I P.M P.q P.w P.g P.c1
noncomputable def Pr.Y:ao (aJ aU):=dO P.k P.e P.U
noncomputable def Pr.W:ao aU:=[P.l3.l (P.z+2) 0,P.l3.l 0 0,P.l3.l 1 0+P.E]
noncomputable def Pr.N:aB:=dN P.k P.e P.U+FZ P.I P.w P.g P.c1+FZ P.H P.w P.e P.V
noncomputable def Pr.tl:St:=.E (.R (.k nA (.h P.z))) (.E (.R (.g nX)) (.nh (.R (.c hK (.g nY) (.h P.E)))))
noncomputable def Pr.J (t:St):St:=.E (.U nX (.c hU (.h P.m) (.h 2))) (.E (.U nY (.h P.n)) (.E (Ji P.H P.L P.q P.w P.e) (.E (Ji P.I P.M P.q P.w P.g) (.E (Em P.k P.e) t))))
noncomputable def Pr.bl:Bl:=.e (HD (P.z+1)) (qq P.k) (P.J P.tl)
noncomputable def lS:ao (aJ aU)->aJ (ao aU)
 |[]=>ah []
 |some v::r=>(lS r).d (v::·)
 |aq::_=>aq
theorem B2:∀{a b:ao (aJ aU)} {o:ao aU},res=(lS (a++b)).d (o++·)->(∀d,res=(lS b).d (d++·)->k d)->Ou o a k res
 |[],b,o,h,c=>c o h
 |aq::_,_,_,h,_=>h
 |some v::a,b,o,h,c=>by
  refine B2 (a:=a) (b:=b) (o:=o++[v]) (h.b ?_) c;show ((lS (a++b)).d (v::·)).d (o++·)=_;cases lS (a++b) with
  |none=>rfl
  |some l=>exact aW ah (ag o [v] l).h
end
theorem Qf (p:aB):∀ts l:ao aU,(F4 p ts l).a=l.a:=by
 intro b
 induction b with
 |nil=>
  intro _;exact af
 |cons t ts a=>
  intro l;exact (a _).b (by unfold qS;exact aA bX (aA bX af))
theorem Qe (p:aB):∀ts l:ao aU,(DR p ts l).a=ts.a:=by
 intro b
 induction b with
 |nil=>
  intro _;exact af
 |cons t ts a=>
  intro l;exact aW ix (a _)
theorem Nu (k:aB)(e:Ee)(c:Cs):(dC k e c).a=c.c.a+2:=by
 refine C5 k ?_ λk=>?_
 ·rfl
 ·show (match lR (k+1) e c with
   |true=>cl c
   |false=>F4 (pI (k+1) e c) (lV (d8 e.l e.n c)) (uJ (lV (d8 e.l e.n c)).a (cl c))).a=_
  cases lR (k+1) e c with
  |true=>rfl
  |false=>exact (Qf _ _ _).b bX
theorem Gp (k:aB)(e:Ee)(c:Cs):(dO k e c).a<=18:=by
 refine C5 k ?_ λk=>?_
 ·show ((EH c).d ah).a<=18;unfold EH;rw [ay,ay,q8];exact i5.i (iK _ _)
 ·show (match lR (k+1) e c with
   |true=>[aq]
   |false=>(DR (pI (k+1) e c) (lV (d8 e.l e.n c)) (uJ (lV (d8 e.l e.n c)).a (cl c))).d ah).a<=18
  cases lR (k+1) e c with
  |true=>exact (by decide:1<=18)
  |false=>
   show cC (List.map ah _)<=18;rw [ay,Qe];refine ab (aV (yW _ _)) (az ?_);exact i5.i (ee (Int.sub_le_sub_right (iK _ 7) 1) (by decide))
section
variable {code:ao In}{S:cG}{z k:aB}{K t:aB}{o l:ao aU}{res:aJ (ao aU)}
theorem Q4 (V:MV S (z+1))(n:z<3)(f:l.a=z+3)(h:At code [S] (5+(z+1)) m (.E (.R (.k nA (.h z))) (.E (.R (.g nX)) (.nh (.R (.c hK (.g nY) (.h big)))))) j)(p:code[j]?=ah .e)(b:o.a<=800):U K code (lM l) 0 m o 0 (ah (o++[l.l (z+2) 0,l.l 0 0,l.l 1 0+big])):=by
 refine gl ?_;intro w;refine bf h.GI λv t c=>?_;refine bf c.GI λu c s=>?_;have d:∀{k:aB},k<=100->Rs (lM l).a k:=λq=>cK (by
  show l.a+3+_<=_;exact aA f (ab (aL (aj (aj (dK n) 3) 3) (aj q 10)) (aa af)))
 have g:∀i,i<z+3->(lM l)[i+3]?=ah (l.l i 0):=λi r=>show l[i]?=_ from Eb (aA f r);refine At.A4 t af (d (show 5<=100 by decide)) (aQ b (aa af)) (Go.of (a:=l.l (z+2) 0) ?_ ?_)
 ·show (HR [S] (lM l) 0 nA (.e (z:aU))).g _=_;unfold HR;refine aA V.a ?_;show (match bg ((0:aU)<=(z:aU)/\(z:aU)<((z+1:aB):aU)) with
   |true=>(Mn (lM l) 0 0 5).g λk=>R.e ((z:aU).p+k)
   |false=>.i).g (λi=>rd (lM l) i)=_
  refine aA (bF (⟨bq z,cM.i (cA z)⟩:(0:aU)<=(z:aU)/\(z:aU)<((z+1:aB):aU))) ?_;show rd (lM l) (z+2+3)=_;unfold rd;exact aA (g (z+2) (cA _)) af
 refine At.A4 c af (d (show 2<=100 by decide)) (by refine aA ai ?_;exact aQ (aj b 1) (aa af)) (Go.of (iO (fH V.x af) (g 0 (eY _))) ?_);refine At.A4 s.XU af (d (show 4<=100 by decide)) (by refine aA ai (aA ai ?_);exact aQ (aj (aj b 1) 1) (aa af)) (Go.of (j9 (iO (fH V.y af) (g 1 (bL (eY _)))) af af) ?_);have e:o++[l.l (z+2) 0,l.l 0 0,l.l 1 0+(big:aU)]=o++[l.l (z+2) 0]++[l.l 0 0]++[l.l 1 0+(big:aU)]:=by
  rw [ag,ag];rfl
 refine aA e ?_;exact U.adC p
theorem Nz (b:k=0->SC code (mS (z+1) k))(d:k≠0->QC code (mS (z+1) k))(j:z<3)(n:c.c.a=z+1)(E:Eo' e)(i:1<=p)(l:p<=190)(B:Bd p p p c)(r:K<=17)(a:k<4)(h:At code [mS (z+1) k] (5+(z+1)) s (Em k e) f)(m:o.a<=800)
  (g:Ou o (dO k e c) (λo=>U (K-dN k e c) code (lM (dC k e c)) 0 f o t res) res):U K code (i9 c []) 0 s o (t+dN k e c) res:=by
 revert b d a h g;refine C5 k ?_ λk=>?_
 ·intro b d a h g;exact Jw (b af) af n j (B.x.le (ab l (aa af))) r h m (MA _ _ g)
 ·intro b d a h g;exact Jx (mV (z+1) (k+1)) (d (by intro q;injection q)) af n (cp z) j E i l B r (cp k) a h m g
end
section
variable {P:Pr}{code:ao In}
theorem Pr.b0 (h:P.F):Bd 3 3 3 P.V:=by
 refine ⟨?_,?_,λv a=>?_⟩
 ·have:=h.m;show ((P.m:aU)-2).o<2 ^ 3;exact (by decide +kernel:∀m:Nat,m<6->((m:Int)-2).natAbs<2 ^ 3) P.m this
 ·exact cH h.n (aa af)
 ·exact aA (List.mem_replicate.g a).2 (AQ af)
structure Pr.kp (P:Pr):Prop where
 e:Bd 24 24 24 P.c1
 d:P.c1.c.a=P.z+1
 a:P.o1.a<=18
 f:Bd 87 87 87 P.U
 g:Bd 29 87 29 P.U
 c:P.U.c.a=P.z+1
 b:P.o2.a<=18
theorem Pr.RK (h:P.F):P.kp:=by
 have c:P.V.c.a=P.z+1:=gf;refine vf (Hj h.e (aa af) (Pr.b0 h) (q:=P.q) (m:=P.w) h.k1 h.f1) λa b i=>?_;obtain ⟨k,e⟩:=a;refine vf (Hj h.g (aa af) e.all (q:=P.q) (m:=P.w) h.k2 h.f2) λa f g=>?_;obtain ⟨j,d⟩:=a;exact ⟨e.all,b.b c,i,d.all,d.xa,f.b (b.b c),g⟩
theorem MI (h:P.F)(s:kG [] 0 [] P.bl=.e code):U 17 code [0,0,0] 0 0 [] P.N (lS (P.o1++(P.o2++(P.Y++P.W.d ah)))):=by
 refine gl ?_;intro G;refine O3 (Jq h.z h.k s) λF D a r z A t=>?_;have V:=mV (P.z+1) P.k;refine bf a.GI λn y a=>?_;refine bf a.GI λm x a=>?_;refine bf a.GI λC w a=>?_;refine bf a.GI λl v a=>?_;refine bf a.GI λB u a=>?_;have e:(cZ (P.z+1) (0:aU)).a<=3:=aA gf h.z;refine t (At.Tw y af (Rs.m e (by decide) (show 3<=1000 by decide)) (Go.of (fH V.x af) (Go.of (a:=(P.m:aU)-2) af ⟨aS (by decide:0+3<5) (aF 5 _),?_⟩)));show U 17 code (i9 ⟨(P.m:aU)-2,0,cZ (P.z+1) 0⟩ []) 0 n [] P.N _;refine At.Tw x af (Rs.m e (by decide) (show 1<=1000 by decide)) (Go.of (fH V.y af) (Go.of (a:=(P.n:aU)) af ⟨aS (by decide:0+4<5) (aF 5 _),?_⟩));show U 17 code (i9 P.V []) 0 m [] P.N _;have H:=Pr.RK h;generalize c:lS (P.o1++(P.o2++(P.Y++P.W.d ah)))=res;refine DL V gf (cp _) h.z h.e (aa af) (aa af) (Pr.b0 h) (au _) h.k1 w (bG _) ((Ou.Tu (B2 (b:=P.o2++(P.Y++P.W.d ah)) (k:=λd=>res=(lS (P.o2++(P.Y++P.W.d ah))).d (d++·)) (c.h.b ?_) λ_ h=>h)).z5 λd g=>?_)
 ·show lS (P.o1++_)=(lS (P.o1++_)).d _;cases lS (P.o1++(P.o2++(P.Y++P.W.d ah)))<;>rfl
 have j:d.a<=18:=aA g.1 (ab (aV (dJ _)) H.a);have g:=g.2;clear c;refine DL V H.d (cp _) h.z h.g (aa af) (aa af) H.e (fO _ _) h.k2 v (ab j (aa af)) ((Ou.Tu (B2 (b:=P.Y++P.W.d ah) (k:=λd=>res=(lS (P.Y++P.W.d ah)).d (d++·)) g λ_ h=>h)).z5 λf g=>?_);have i:f.a<=36:=aA g.1 (aL j H.b);have g:=g.2;refine (show U _ code _ 0 l f (0+dN P.k P.e P.U) res from ?_) |> λq=>dw (dJ (dN P.k P.e P.U)) q;refine Nz z A h.z H.c h.e (aa af) (aa af) H.f (ab (fO _ _) (fO _ _)) h.k u (ab i (aa af)) ((Ou.Tu (B2 (b:=P.W.d ah) (k:=λd=>res=(lS (P.W.d ah)).d (d++·)) g λ_ h=>h)).z5 λo g=>?_);have p:o.a<=54:=aA g.1 (aL i (Gp _ _ _));exact aA g.2 (Q4 V h.z ((Nu _ _ _).b (aW (·+2) H.c)) a r (ab p (aa af)))
end
noncomputable def rH:Tx:=[112,114,111,103,114,97,109,32,116,57,59,32,118,97,114,32,120,32,58,32,105,110,116,101,103,101,114,59,32,121,32,58,32,105,110,116,101,103,101,114,59,32,97,32,58,32,97,114,114,97,121,32]
noncomputable def wo:aB->Tx:=λk=>match k with
 |0=>[32,111,102,32,105,110,116,101,103,101,114,59,32,112,114,111,99,101,100,117,114,101,32,115,59,32,118,97,114,32,121,32,58,32,105,110,116,101,103,101,114,59,32,98,101,103,105,110,32,102,111,114,32,121,32,58,61,32,120,32,100,111,119,110,116,111,32,49,32,100,111,32,98,101,103,105,110,32,119,114,105,116,101,40,121,32]
 |_=>[32,111,102,32,105,110,116,101,103,101,114,59,32,112,114,111,99,101,100,117,114,101,32,113,40,117,44,32,118,97,114,32,118,41,59,32,118,97,114,32,119,32,58,32,105,110,116,101,103,101,114,59,32,112,114,111,99,101,100,117,114,101,32,114,40,118,97,114,32,122,41,59,32,98,101,103,105,110,32,119,32,58,61,32,119,32,43,32,117,59,32,122,32,58,61,32,122,32,42,32,50,32,43,32,119,59,32,120,32,58,61,32,120,32,45,32,49,32,101,110,100,59,32,98,101,103,105,110,32,114,40,119,41,59,32,105,102,32,117,32,62,32,49,32,116,104,101,110,32,113,40,117,32,45,32,49]
noncomputable def S6:aB->Tx:=λk=>match k with
 |0=>[32,121,41,59,32,121,32,58,61,32,48,32,101,110,100,32,101,110,100,59,32,98,101,103,105,110,32]
 |_=>[32,118,41,59,32,114,40,118,41,59,32,119,114,105,116,101,40,118,41,32,101,110,100,59,32,98,101,103,105,110,32]
noncomputable def Ea:Tx:=[41,59,32,119,114,105,116,101,40,120,41,59,32,119,114,105,116,101,40,121,32]
noncomputable def oU:Tx:=[32,101,110,100,46]
noncomputable def Yh:bC->ao cQ:=λb=>match b with
 |false=>[.a [112,114,111,103,114,97,109],.b [116,57],.a [59],.a [118,97,114],.b [120],.a [58],.a [105,110,116,101,103,101,114],.a [59],.b [121],.a [58],.a [105,110,116,101,103,101,114],.a [59],.b [97],.a [58],.a [97,114,114,97,121],.a [91]]
 |true=>[.a [112,114,111,103,114,97,109],.b [116,57],.a [59],.a [118,97,114],.b [120],.a [44],.b [121],.a [58],.a [105,110,116,101,103,101,114],.a [59],.b [97],.a [58],.a [97,114,114,97,121],.a [91]]
noncomputable def LP:aB->bC->ao cQ:=λk b=>match k with
 |0=>(match b with
  |false=>[.a [111,102],.a [105,110,116,101,103,101,114],.a [59],.a [112,114,111,99,101,100,117,114,101],.b [115],.a [59],.a [118,97,114],.b [121],.a [58],.a [105,110,116,101,103,101,114],.a [59],.a [98,101,103,105,110],.a [102,111,114],.b [121],.a [58,61],.b [120],.a [100,111,119,110,116,111],.c 1,.a [100,111],.a [98,101,103,105,110],.a [119,114,105,116,101],.a [40],.b [121],.a [42]]
  |true=>[.a [111,102],.a [105,110,116,101,103,101,114],.a [59],.a [112,114,111,99,101,100,117,114,101],.b [115],.a [59],.a [118,97,114],.b [121],.a [58],.a [105,110,116,101,103,101,114],.a [59],.a [98,101,103,105,110],.a [102,111,114],.b [121],.a [58,61],.b [120],.a [100,111,119,110,116,111],.c 1,.a [100,111],.a [98,101,103,105,110],.a [119,114,105,116,101],.a [40],.a [40],.b [121],.a [41],.a [42]])
 |_=>[.a [111,102],.a [105,110,116,101,103,101,114],.a [59],.a [112,114,111,99,101,100,117,114,101],.b [113],.a [40],.b [117],.a [44],.a [118,97,114],.b [118],.a [41],.a [59],.a [118,97,114],.b [119],.a [58],.a [105,110,116,101,103,101,114],.a [59],.a [112,114,111,99,101,100,117,114,101],.b [114],.a [40],.a [118,97,114],.b [122],.a [41],.a [59],.a [98,101,103,105,110],.b [119],.a [58,61],.b [119],.a [43],.b [117],.a [59],.b [122],.a [58,61],.b [122],.a [42],.c 2,.a [43],.b [119],.a [59],.b [120],.a [58,61],.b [120],.a [45],.c 1,.a [101,110,100],.a [59],.a [98,101,103,105,110],.b [114],.a [40],.b [119],.a [41],.a [59],.a [105,102],.b [117],.a [62],.c 1,.a [116,104,101,110],.b [113],.a [40],.b [117],.a [45],.c 1,.a [44]]
noncomputable def SD:aB->ao cQ:=λk=>match k with
 |0=>[.b [121],.a [41],.a [59],.b [121],.a [58,61],.c 0,.a [101,110,100],.a [101,110,100],.a [59],.a [98,101,103,105,110]]
 |_=>[.b [118],.a [41],.a [59],.b [114],.a [40],.b [118],.a [41],.a [59],.a [119,114,105,116,101],.a [40],.b [118],.a [41],.a [101,110,100],.a [59],.a [98,101,103,105,110]]
noncomputable def tE1:bC->ao cQ:=λb=>match b with
 |false=>[.a [41],.a [59],.a [119,114,105,116,101],.a [40],.b [120],.a [41],.a [59],.a [119,114,105,116,101],.a [40],.b [121],.a [43]]
 |true=>[.a [41],.a [59],.a [119,114,105,116,101],.a [40],.b [120],.a [41],.a [59],.a [119,114,105,116,101],.a [40],.a [40],.b [121],.a [41],.a [43]]
noncomputable def LQ:ao cQ:=[.a [101,110,100],.a [46]]
noncomputable def hC (k:aB):aB:=match k with
 |0=>42
 |_=>44
noncomputable def oB (p:aB->bC):aB->bC
 |0=>ax
 |n+1=>oB p n&&p n
theorem eZ:∀{n:aB},oB p n=ax->∀{i:aB},i<n->p i=ax
 |n+1,h,i,a=>by
  have h:=ae.g h;rcases Nat.lt_succ_iff_lt_or_eq.g a with a|rfl
  ·exact eZ h.1 a
  ·exact h.2
noncomputable def tkE (k:cQ):Tx:=match k with
 |.a a=>0::a
 |.b a=>1::a
 |.c n=>[2,n]
 |_=>[]
noncomputable def tkD (l:Tx):cQ:=match l with
 |0::a=>.a a
 |1::a=>.b a
 |_::n::_=>.c n
 |_=>.e
theorem ZI (k:cQ):tkD (tkE k)=k:=by cases k<;>rfl
noncomputable def SA (a b:ao cQ):bC:=bg (a.d tkE=b.d tkE)
theorem LO (h:SA a b=ax):a=b:=by
 have e:∀l:ao cQ,(l.d tkE).d tkD=l:=λl=>gR.b ((jW (g:=id) λk z=>ZI k).b (List.map_id l));exact (e a).h.b ((aW _ (aX h)).b (e b))
noncomputable def zY (T:Tx)(ts:ao cQ):bC:=match go aw (.n,[]) T with
 |some (.n,a)=>SA a ts
 |_=>aw
theorem j5 (h:zY T ts=ax):go aw (.n,[]) T=ah (.n,ts):=by
 unfold zY at h;revert h;rcases go aw (.n,[]) T with _|⟨m,a⟩
 ·intro h;injection h
 ·cases m with
  |n=>intro h;rw [LO h]
  |_=>intro h;injection h
noncomputable def cmV (i j:aB):bC:=aM i 4||(aM j 4&&!d0 i [0,1,2])
noncomputable def prV (i j:aB):bC:=aM i 6||(aM j 6&&!aM i 5)
theorem ac0:oB (λi=>oB (λj=>zY (mQ j (mQ i rH)++[91]) (Yh (cmV i j))) 12) 12=ax:=by decide +kernel
theorem acZ:oB (λi=>oB (λj=>zY (mQ j (mQ i (wo 0))++[42]) (LP 0 (prV i j))&&zY (mQ j (mQ i (wo 1))++[44]) (LP 1 (prV i j))) 12) 12=ax:=by decide +kernel
theorem acY:oB (λi=>oB (λj=>zY (mQ j (mQ i Ea)++[43]) (tE1 (prV i j))&&zY (mQ j (mQ i oU)) LQ) 12) 12=ax:=by decide +kernel
theorem acX:oB (λi=>!(kf.l i ([],[])).1.isEmpty&&bM (kf.l i ([],[])).2.a (3*(kf.l i ([],[])).1.a)&&!(d0 91 (kf.l i ([],[])).1||(d0 93 (kf.l i ([],[])).1||(d0 42 (kf.l i ([],[])).1||(d0 44 (kf.l i ([],[])).1||(d0 43 (kf.l i ([],[])).1||d0 41 (kf.l i ([],[])).1)))))&&oB (λz=>bT (mQ i [49+z]) [49+z]) 3) 12=ax:=by decide +kernel
noncomputable def Jj (c:aB):bC:=d0 c [91,93,42,44,43,41]
def JH (a:Tx):Prop:=a≠[]/\∀c,Jj c=ax->d0 c a=aw
theorem mG (j:i<12):JH (kf.l i ([],[])).1/\(kf.l i ([],[])).2.a<=3*(kf.l i ([],[])).1.a/\∀z,z<3->mQ i [49+z]=[49+z]:=by
 have h:=ae.g (eZ acX j);have e:=ae.g h.1;have d:=ae.g e.1;refine dX ⟨λq=>?_,?_⟩ (aa d.2) (λz f=>eA (eZ h.2 f))
 ·have:=d.1;have this:=q▸this;injection this
 ·have g:=jh.g e.2;refine gl ?_;intro p;obtain ⟨o,g⟩:=bN.g g;obtain ⟨n,g⟩:=bN.g g;obtain ⟨m,g⟩:=bN.g g;have b:=bN.g g;obtain ⟨l,k⟩:=bN.g b.2;intro c a;rcases aZ.g a with h|a
  ·exact aA (aD h) o
  rcases aZ.g a with h|a
  ·exact aA (aD h) n
  rcases aZ.g a with h|a
  ·exact aA (aD h) m
  rcases aZ.g a with h|a
  ·exact aA (aD h) b.1
  rcases aZ.g a with h|a
  ·exact aA (aD h) l
  rcases aZ.g a with h|a
  ·exact aA (aD h) k
  ·injection a
noncomputable def T7 (h:Tx)(d:aB)(g:Tx)(c:aB)(f b a e:Tx):Tx:=h++91::([d]++93::(g++c::(f++93::(b++43::(a++41::e)))))
theorem aa7 (h:JH a)(f:Jj c=ax)(n:ct a b [d]=[d]):ct a b (T7 m d l c j i g e)=T7 (ct a b m) d (ct a b l) c (ct a b j) (ct a b i) (ct a b g) (ct a b e):=by
 have k:∀{c:aB},Jj c=ax->∀u v,ct a b (u++c::v)=ct a b u++c::ct a b v:=λf u v=>jU h.1 (h.2 _ f) u 0 (bG _);unfold T7;rw [k af,k af,k f,k af,k af,k af,n]
theorem aae (a:i<12)(h:z<3):mQ i (T7 g (49+z) f (hC k) d c b e)=T7 (mQ i g) (49+z) (mQ i f) (hC k) (mQ i d) (mQ i c) (mQ i b) (mQ i e):=aa7 (mG a).1 (by cases k<;>rfl) ((mG a).2.2 z h)
theorem t8 {a b:Tx}(i:a≠[])(k:1<=m)(h:b.a<=m*a.a):∀(n:aB) (T:Tx),T.a<=n->(ct a b T).a<=m*T.a:=by
 intro n
 induction n with
 |zero=>
  intro T d;cases T with
  |nil=>exact bG _
  |cons c l=>cases d
 |succ n g=>
  intro T d;cases T with
  |nil=>exact bG _
  |cons c l=>
   cases f:sH a (c::l) with
   |false=>
    refine aA (iW f) ?_;exact ab (aL (g l (aY d)) k) (aV (Nat.mul_succ m l.a).h)
   |true=>
    obtain ⟨s,e⟩:=xm f;rw [e] at f d ⊢;have j:s.a<=n:=by
     cases a with
     |nil=>exact bZ af i
     |cons x a=>
      rw [ai] at d;exact ab (aF _ a.a) (aY (ab (aV (EW _ _).h) d))
    refine aA (DQ i f) ?_;rw [ai,ai,Nat.mul_add];exact aL h (g s j)
theorem BR (a:i<12)(T:Tx):(mQ i T).a<=3*T.a:=t8 (mG a).1.1 (aa af) (mG a).2.1 _ T (au _)
theorem om (h:go aw (.n,[]) (u++[c])=ah (.n,t))(b:wy v res):wy (u++c::v) (CH t res):=by
 refine bf (Gi b (u++[c]) .n [] af [] t h) λe d a=>?_;subst d;rw [ag] at a;exact a
theorem aaU (h:z<3):go aw (.n,[]) ([49+z]++[93])=ah (.n,[.c (z+1),.a [93]]):=lt3 h af af af
theorem ada (l:z<3)(r:go aw (.n,[]) (f++[91])=ah (.n,k))(q:go aw (.n,[]) (e++[c])=ah (.n,j))(p:go aw (.n,[]) (d++[93])=ah (.n,i))(o:go aw (.n,[]) (b++[43])=ah (.n,h))(n:go aw (.n,[]) (a++[41])=ah (.n,g))(m:wy Q res):wy (T7 f (49+z) e c d b a Q) (CH k (CH [.c (z+1),.a [93]] (CH j (CH i (CH h (CH g res)))))):=om r (om (aaU l) (om q (om p (om o (om n m)))))
noncomputable def t9:Tx:=[116,57]
noncomputable def aft (vs:ao (Tx×aJ aB))(k:aB)(rest:ao cQ):R (Tx×Bl):=((yS rest).g λs=>ek iQ s.2 λr=>.e (Bl.e vs (qq k) s.1,r)).g λb=>ek VB b.2 λr=>match r with
  |[]=>.j
  |.e::_=>.e (t9,b.1)
  |_::_=>.i
theorem Cm (z:aB)(rest:ao cQ)(k:aB)(b a:bC):mT (Yh b++([.c (z+1),.a [93]]++(LP k a++(SD k++rest))))=aft (HD (z+1)) k rest:=by
 cases k with
 |zero=>cases b<;>cases a<;>rfl
 |succ k=>cases b<;>cases a<;>rfl
noncomputable def tA (z:aB):ao cQ:=[.a iN,.a [40],.b nA,.a [91],.c z,.a [93]]
theorem yO (h:st (fG s++.a [59]::r)=.e (s,.a [59]::r)):iu st (g+1) (.a [59]::(fG s++.a [59]::r))=(iu st g (.a [59]::r)).g λq=>.e (s::q.1,q.2):=by
 show (st (fG s++.a [59]::r)).g (λs=>(iu st g s.2).g λq=>R.e (s.1::q.1,q.2))=_;refine aA h ?_;rfl
theorem V9 (m:SR f)(l:SR e)(j:SR c)(i:SR b)(g:SR a)(u:jx f<=14)(t:jx e<=14)(p:jx c<=14)(o:jx b<=14)(n:jx a<=14)(h:iu (dy dS) 396 (.a [59]::ts)=res) :
  yS (fG f++.a [59]::(fG e++.a [59]::(fG c++.a [59]::(fG b++.a [59]::(fG a++.a [59]::ts)))))=res.g λq=>.e (qY f (e::c::b::a::q.1),q.2):=by
 have k:∀{s:St} (h:SR s) (d:jx s<=14) (r:ao cQ),dy dS (fG s++.a [59]::r)=.e (s,.a [59]::r):=λh d r=>h 14 d _ r af (.y af);show (dy dS _).g (λs=>(iu (dy dS) gC s.2).g λq=>R.e (qY s.1 q.1,q.2))=_;rw [k m u];show (iu (dy dS) (399+1) (.a [59]::(fG e++.a [59]::(fG c++.a [59]::(fG b++.a [59]::(fG a++.a [59]::ts)))))).g _=_;refine aA (yO (k l t _)) (aA (yO (k j p _)) (aA (yO (k i o _)) (aA (yO (k g n _)) (aA h ?_))));cases res<;>rfl
theorem PM (z big:aB)(a:bC):iu (dy dS) 396 (.a [59]::(tA z++(tE1 a++([.c big,.a [41]]++(LQ++[.e])))))=.e ([.R (.k nA (.h z)),.R (.g nX),.R (.c hK (.g nY) (.h big))],[.a iQ,.a [46],.e]):=by
 cases a<;>rfl
theorem bK (h:a=ax)(c:b=ax):(a&&b)=ax:=by refine aA h (aA c ?_);rfl
theorem ml {a b:aB}(h:a<=b):bM a b=ax:=cK h
structure GE (S:cG)(x:Ex)(a b c:aB):Prop where
 p:x.i=ax
 n:x.j<=b
 r:ko x<=a
 q:r5 x<=b
 l:x.q<=c
 m:AF [S] x=ax
section
variable {z k:aB}
theorem XB:oB (λk=>oB (λn=>CG (fJ k n)&&((fJ k n).i&&(bM (fJ k n).j 10&&(bM (ko (fJ k n)) 3&&(bM (r5 (fJ k n)) 10&&(bM (fJ k n).q 6&&(cL 4 k||(EG (d7 1 (fJ k n)++[32])&&EG (d7 2 (fJ k n)++[32]))))))))) 4) 6=ax:=by decide +kernel
theorem XC (n:aB):∀j,AF [mS (z+1) k] (fJ j n)=ax
 |0=>af
 |1=>af
 |2=>af
 |3=>af
 |4=>af
 |_+5=>af
theorem lu (g:j<6)(f:n<4):CG (fJ j n)=ax/\GE (mS (z+1) k) (fJ j n) 3 10 6/\(j<5->EG (d7 1 (fJ j n)++[32])=ax/\EG (d7 2 (fJ j n)++[32])=ax):=by
 have h:=ae.g (eZ (eZ XB g) f);have e:=ae.g h.2;have d:=ae.g e.2;have c:=ae.g d.2;have a:=ae.g c.2;have b:=ae.g a.2;refine dX h.1 ⟨e.1,aa d.1,aa c.1,aa a.1,aa b.1,XC n j⟩ (λa=>?_)
 ·rcases aZ.g b.2 with q|q
  ·exact bZ (aa q) (qi a)
  ·exact ae.g q
theorem GE.s {S:cG}(h:GE S x a b c)(d:GE S y j b' c')(e:cF o wW=ax)(f:o.a<=3):GE S (.c o x y) (vV a j+1) (b+b'+7) (vV c c'+1):=by
 refine ⟨?_,?_,az (bj.i ⟨ab h.r (da _ _),ab d.r (cJ _ _)⟩),?_,az (bj.i ⟨ab h.l (da _ _),ab d.l (cJ _ _)⟩),bK h.m d.m⟩
 ·show (cF o wW&&x.i&&y.i)=ax;refine aA e (aA h.p (aA d.p ?_));rfl
 ·exact ab (aL h.n (az d.n)) (ar (by decide:1<=7) (b+b'))
 ·have i:=h.q;have g:=d.q;exact ab (az (ar (aL (az (aL (az i) f)) g) 1)) (aV (aW ix ((cv 1 _).b (aW ix (bo b 5 b')))))
theorem yK (o:aB):cF (iA o) Gv=ax/\(iA o).a<=3:=match o with
 |0=>⟨af,by decide⟩
 |1=>⟨af,by decide⟩
 |2=>⟨af,by decide⟩
 |3=>⟨af,by decide⟩
 |_+4=>⟨af,(by decide:3<=3)⟩
theorem aba (o:aB):cF (Xs o) (oy.d .c)=ax/\(Xs o).a<=3:=match o with
 |0=>⟨af,by decide⟩
 |1=>⟨af,by decide⟩
 |2=>⟨af,by decide⟩
 |3=>⟨af,by decide⟩
 |4=>⟨af,by decide⟩
 |_+5=>⟨af,(by decide:2<=3)⟩
theorem As {S:cG}(h:CG x=ax)(g:GE S x a b c)(f:a<=12)(e:b<=300)(d:c<=30):zk x=ax:=bK h (bK (ml (ab g.r f)) (bK (ml (ab g.q e)) (ml (ab g.l d))))
theorem VD {S:cG}(h:VF x=ax)(g:GE S x a b c)(f:a<=12)(e:b<=300)(d:c<=30):Lz x=ax:=bK h (bK (ml (ab g.r f)) (bK (ml (ab g.q e)) (ml (ab g.l d))))
theorem LA {p:Tx}{v:Tx}(h:EG (p++[32])=ax):EG (p++32::v)=ax:=by
 cases p with
 |nil=>injection h
 |cons c p=>
  cases p with
  |nil=>exact h
  |cons d p=>exact h
theorem aa4 {e:Ee}(E:Eo' e):CG (z3 e)=ax/\GE (mS (z+1) k) (z3 e) 5 50 8/\EG (d7 1 (z3 e))=ax:=by
 have l:=lu (z:=z) (k:=k) (bb E.l) E.n;have i:=lu (z:=z) (k:=k) (bb E.i) E.n;have r:=lu (z:=z) (k:=k) (bb E.r) E.n;have c:=λo=>yJ o;have j:∀(o:aB) (x y:Ex) (d:aB),d7 d (.c (iA o) x y)=rY (cL (iB (iA o)) d) (rF (d7 (iB (iA o)) x) (iA o) (d7 (iB (iA o)+1) y)):=λo x y d=>by
  show (match cF (iA o) (oy.d .c) with
   |true=>rF (d7 1 x) (iA o) (d7 1 y)
   |false=>rY (cL (iB (iA o)) d) (rF (d7 (iB (iA o)) x) (iA o) (d7 (iB (iA o)+1) y)))=_
  exact aA (vK (yK o).1).2 af
 have h:∀o,cL (iB (iA o)) 1=aw/\(iB (iA o)=1\/iB (iA o)=2):=λo=>match o with
  |0=>⟨af,.C af⟩
  |1=>⟨af,.C af⟩
  |2=>⟨af,.y af⟩
  |3=>⟨af,.y af⟩
  |_+4=>⟨af,.y af⟩
 have m:∀(o:aB) (v:Tx),EG (d7 (iB (iA o)) (fJ e.l e.n)++32::v)=ax:=λo v=>by
  rcases (h o).2 with q|q<;>refine aA q ?_
  ·exact LA (l.2.2 E.l).1
  ·exact LA (l.2.2 E.l).2
 have f:∀a o b:Tx,rF a o b=a++32::(o++[32]++b):=λa o b=>by unfold rF;rw [ag,ag,ag,ag];rfl
 unfold z3;cases e.d with
 |false=>
  refine dX (bK (yK _).1 (bK (bK (yK _).1 (bK l.1 i.1)) r.1)) ((l.2.1.s i.2.1 (c e.s) (yK _).2).s r.2.1 (c e.t) (yK _).2 |> λg=>⟨g.p,ab g.n (by decide),g.r,ab g.q (by decide),g.l,g.m⟩) ?_;show EG (d7 1 (.c (iA e.t) (.c (iA e.s) (fJ e.l e.n) (fJ e.i e.n)) (fJ e.r e.n)))=ax;rw [j,(h e.t).1,j];show EG (rF (rY (cL (iB (iA e.s)) (iB (iA e.t))) _) _ _)=ax;rw [f];cases cL (iB (iA e.s)) (iB (iA e.t)) with
  |true=>rfl
  |false=>
   show EG (rF _ _ _++_)=ax;rw [f,ag];exact m e.s _
 |true=>
  refine dX (bK (yK _).1 (bK l.1 (bK (yK _).1 (bK i.1 r.1)))) (l.2.1.s (i.2.1.s r.2.1 (c e.s) (yK _).2) (c e.t) (yK _).2 |> λg=>⟨g.p,ab g.n (by decide),g.r,ab g.q (by decide),g.l,g.m⟩) ?_;show EG (d7 1 (.c (iA e.t) (fJ e.l e.n) (.c (iA e.s) (fJ e.i e.n) (fJ e.r e.n))))=ax;rw [j];refine aA (h e.t).1 ?_;show EG (rF _ _ _)=ax;rw [f];exact m e.t _
theorem Xu (E:Eo' e)(q:aB):VF (z4 q e)=ax/\GE (mS (z+1) k) (z4 q e) 4 27 7:=by
 have l:=lu (z:=z) (k:=k) (bL E.l) E.n;have r:=lu (z:=z) (k:=k) (bb E.r) E.n;unfold z4;cases aM q 6 with
 |true=>exact ⟨r.1,r.2.1.p,ab (az r.2.1.n) (aa af),ab r.2.1.r (aa af),ab (aj (ar r.2.1.q 4) 1) (aa af),az r.2.1.l,r.2.1.m⟩
 |false=>exact ⟨bK (aba q).1 (bK l.1 r.1),l.2.1.s r.2.1 (Nx q) (aba q).2⟩
end
structure GS (S:cG)(s:St)(a b c d:aB):Prop where
 e:Hb s=ax
 l:s.wf aw=ax
 f:s.fu<=a
 j:s.sz<=b
 i:AG [S] s=ax
 h:jx s<=c
 g:(fq s).a<=d
theorem wm (h:a.a<=m)(c:b.a<=n):(jT [a,b]).a<=m+n+2:=ab (MR [a,b]) (aj (show a.a+(b.a+0)<=m+n from aL h c) 2)
theorem HK (h:a.a<=m)(e:b.a<=n)(d:c.a<=k):(jT [a,b,c]).a<=m+(n+k)+3:=ab (MR [a,b,c]) (aj (show a.a+(b.a+(c.a+0))<=m+(n+k) from aL h (aL e d)) 3)
section
variable {z k:aB}
theorem nN {S:cG}(g:GE S x a b c)(l:aB):(d7 l x).a<=b:=ab (nO x l) g.q
theorem cu {a b:Tx}(h:a.a<=m)(c:b.a<=n):(a++b).a<=m+n:=aA ai (aL h c)
theorem Ej {e:Ee}(E:Eo' e)(b:f<4):GS (mS (z+1) k) (ka f e) 12 70 1 60/\Xh (ka f e)=ax:=by
 have d:=aa4 (z:=z) (k:=k) E;have i:=lu (z:=z) (k:=k) (bb E.i) E.n;have v:=lu (z:=z) (k:=k) (bL E.l) E.n;have a:=As d.1 d.2.1 (aa af) (aa af) (aa af);refine YQ b ?_ ?_ ?_ ?_
 ·exact ⟨⟨af,af,(by decide:1<=12),bG _,af,au 1,bG _⟩,af⟩
 ·exact ⟨⟨bK a d.2.2,d.2.1.p,ab (az d.2.1.l) (by decide),ab (az d.2.1.n) (aa af),d.2.1.m,au 1,ab (cu (cu (au 6) (nN d.2.1 1)) (au 1)) (aa af)⟩,af⟩
 ·exact ⟨⟨bK af a,d.2.1.p,ab (az (bj.i ⟨(by decide:4<=8),d.2.1.l⟩)) (by decide),ab (ar (az d.2.1.n) 1) (aa af),bK af d.2.1.m,au 1,ab (cu (cu (au 1) (au 4)) (nN d.2.1 1)) (aa af)⟩,af⟩
 ·exact ⟨⟨bK af (bK (As i.1 i.2.1 (by decide) (by decide) (by decide)) (As v.1 v.2.1 (by decide) (by decide) (by decide))),bK i.2.1.p v.2.1.p,ab (az (bj.i ⟨bj.i ⟨(by decide:3<=7),az i.2.1.l⟩,ab v.2.1.l (aa af)⟩)) (aa af),ab (aL (aj i.2.1.n 3) (az v.2.1.n)) (aa af),bK (bK af i.2.1.m) v.2.1.m,au 1,ab (cu (cu (cu (cu (cu (au 1) (au 1)) (nN i.2.1 1)) (au 1)) (au 4)) (nN v.2.1 1)) (aa af)⟩,af⟩
theorem H3:oB (λm=>Lz (.c [60] (.g nX) (.h m))&&(Lz (.c [60,61] (.g nX) (.h m))&&(bM (r5 (.c [60,61] (.g nX) (.h m))) 20&&bM (r5 (.c [60] (.g nX) (.h m))) 20))) 4=ax:=by decide +kernel
theorem Ci:zk (.c hK (.g nX) (.h 1))=ax/\zk (.c hU (.g nX) (.h 1))=ax/\(d7 1 (.c hK (.g nX) (.h 1))).a=5/\(d7 1 (.c hU (.g nX) (.h 1))).a=5:=by decide +kernel
theorem SH (E:Eo' e)(u:j<7)(v:f<4)(t:m<4):GS (mS (z+1) k) (Ji j f q m e) 20 250 5 220:=by
 have b:=Ej (z:=z) (k:=k) E v;have d:=Ej (z:=z) (k:=k) E (f:=3-f) (aQ (fO 3 f) (aa af));have c:=Xu (z:=z) (k:=k) E q;have p:=VD c.1 c.2 (by decide) (aa af) (aa af);have a:=lu (z:=z) (k:=k) (bb E.l) E.n;have g:=lu (z:=z) (k:=k) (bb E.r) E.n;have n:=As a.1 a.2.1 (by decide) (by decide) (by decide);have o:=As g.1 g.2.1 (by decide) (by decide) (by decide);have r:=ae.g (eZ H3 t);have i:=ae.g r.2;have h:=ae.g i.2;have l:=Ci;have s:(DH++d7 1 (z4 q e)++yG).a<=3+27+5:=cu (cu (au 3) (nN c.2 1)) (au 5);refine X5 u ?_ ?_ ?_ ?_ ?_ ?_ ?_
 ·exact ⟨bK p b.1.e,bK c.2.p b.1.l,ab (az (bj.i ⟨ab c.2.l (by decide:7<=12),b.1.f⟩)) (by decide),ab (aL c.2.n (ar b.1.j 1)) (aa af),bK c.2.m b.1.i,ab (az b.1.h) (by decide),ab (wm s b.1.g) (aa af)⟩
 ·exact ⟨bK p (bK b.2 (bK b.1.e d.1.e)),bK (bK c.2.p b.1.l) d.1.l,ab (az (bj.i ⟨ab c.2.l (by decide:7<=12),bj.i ⟨b.1.f,d.1.f⟩⟩)) (by decide),ab (aL c.2.n (ar (aL b.1.j (ar d.1.j 1)) 1)) (aa af),bK c.2.m (bK b.1.i d.1.i),ab (az (bj.i ⟨b.1.h,d.1.h⟩)) (by decide),ab (HK (wm s b.1.g) (au 4) d.1.g) (aa af)⟩
 ·refine ⟨bK r.1 (bK (bK af l.1) b.1.e),bK af (bK af b.1.l),ab (az (bj.i ⟨(by decide:4<=13),az (bj.i ⟨(by decide:5<=12),b.1.f⟩)⟩)) (aa af),ab (ar (ar (az (ar b.1.j 6)) 2) 4) (aa af),bK af (bK af b.1.i),ab (az (az (az (bj.i ⟨bh 1,az b.1.h⟩)))) (aa af),?_⟩;refine ab (wm (cu (cu (au 6) (ab (nO _ 1) (aa h.2))) (au 3)) (HK (au 5) (wm (cu (cu (cu (au 1) (au 4)) (aV l.2.2.1)) (au 1)) b.1.g) (au 3))) (aa af)
 ·refine ⟨bK (bK (bK af l.2.1) b.1.e) i.1,bK (bK af b.1.l) af,ab (az (bj.i ⟨bj.i ⟨(by decide:5<=12),b.1.f⟩,(by decide:4<=12)⟩)) (by decide),ab (aj (ar b.1.j 6) 6) (aa af),bK (bK af b.1.i) af,ab (az (az (bj.i ⟨bh 1,az b.1.h⟩))) (by decide),?_⟩;refine ab (HK (au 6) (wm (cu (cu (cu (au 1) (au 4)) (aV l.2.2.2)) (au 1)) b.1.g) (cu (au 6) (ab (nO _ 1) (aa h.1)))) (aa af)
 ·exact ⟨bK af (bK n (bK o b.1.e)),bK (bK a.2.1.p g.2.1.p) b.1.l,ab (az (bj.i ⟨bj.i ⟨(by decide:4<=12),b.1.f⟩,bj.i ⟨ab a.2.1.l (by decide),ab g.2.1.l (by decide)⟩⟩)) (by decide),ab (aL a.2.1.n (aL g.2.1.n (ar (ar (aj b.1.j 7) 2) 6))) (by decide),bK af (bK a.2.1.m (bK g.2.1.m b.1.i)),ab (az b.1.h) (by decide),ab (wm (cu (cu (cu (cu (cu (cu (au 4) (au 1)) (au 4)) (nN a.2.1 1)) (au 4)) (nN g.2.1 1)) (au 3)) b.1.g) (aa af)⟩
 ·exact ⟨bK af (bK n (bK o b.1.e)),bK (bK a.2.1.p g.2.1.p) b.1.l,ab (az (bj.i ⟨bj.i ⟨(by decide:4<=12),b.1.f⟩,bj.i ⟨ab a.2.1.l (by decide),ab g.2.1.l (by decide)⟩⟩)) (by decide),ab (aL a.2.1.n (aL g.2.1.n (ar (ar (aj b.1.j 7) 2) 6))) (by decide),bK af (bK a.2.1.m (bK g.2.1.m b.1.i)),ab (az b.1.h) (by decide),ab (wm (cu (cu (cu (cu (cu (cu (au 4) (au 1)) (au 4)) (nN a.2.1 1)) (au 8)) (nN g.2.1 1)) (au 3)) b.1.g) (aa af)⟩
 ·exact ⟨bK b.1.e d.1.e,bK b.1.l d.1.l,ab (az (bj.i ⟨b.1.f,d.1.f⟩)) (by decide),ab (aL b.1.j d.1.j) (aa af),bK b.1.i d.1.i,ab (az (az (bj.i ⟨b7 b.1.h,az d.1.h⟩))) (by decide),ab (HK (au 5) (wm (cu b.1.g (au 1)) d.1.g) (au 3)) (aa af)⟩
end
section
variable {z k:aB}
theorem aa2 (E:Eo' e):GS (mS (z+1) k) (Em k e) 12 40 1 40:=by
 have l:=lu (z:=z) (k:=k) (bb E.l) E.n;have i:=lu (z:=z) (k:=k) (bb E.i) E.n;revert l i;refine C5 k ?_ λk=>?_
 ·intro l i;exact ⟨af,af,(by decide:4<=12),(by decide:2<=40),af,au 1,(by decide:1<=40)⟩
 ·intro l i;have a:zk (pX (k+1) e)=ax/\(pX (k+1) e).i=ax/\(pX (k+1) e).q<=8/\(pX (k+1) e).j<=14/\okA [mS (z+1) (k+1)] (pX (k+1) e)=ax/\(d7 1 (pX (k+1) e)).a<=13:=by
   match (generalizing:=false) k with
   |0=>exact yj af af (by decide:3<=8) (by decide:2<=14) af (by decide:1<=13)
   |1=>exact yj af af (by decide:3<=8) (by decide:2<=14) af (by decide:1<=13)
   |k+2=>
    refine yj (bK (bK af i.1) (bK (ml (ab (az i.2.1.r) (aa af))) (bK (ml (ab (az (ar i.2.1.q 2)) (aa af))) (ml (ab (az (bj.i ⟨(by decide:3<=7),az i.2.1.l⟩)) (aa af)))))) i.2.1.p (az (bj.i ⟨(by decide:3<=7),az i.2.1.l⟩)) (aj i.2.1.n 4) (bK af i.2.1.m) ?_;show (nA++[91]++d7 1 (fJ e.i e.n)++[93]).a<=1+1+10+1;exact cu (cu (cu (au 1) (au 1)) (nN i.2.1 1)) (au 1)
  refine ⟨bK af (bK af (bK (As l.1 l.2.1 (aa af) (aa af) (aa af)) (bK a.1 af))),bK l.2.1.p (bK a.2.1 af),?_,?_,bK l.2.1.m (bK a.2.2.2.2.1 af),au 1,?_⟩
  ·exact ab (az (bj.i ⟨ab l.2.1.l (by decide:6<=8),bj.i ⟨a.2.2.1,(by decide:3<=8)⟩⟩)) (aa af)
  ·exact ab (aj (aL l.2.1.n (aj a.2.2.2.1 0)) 2) (aa af)
  ·show (nQ++[40]++(d7 1 (fJ e.l e.n)++[44,32]++d7 1 (pX (k+1) e))++[41]).a<=40;exact ab (cu (cu (cu (au 1) (au 1)) (cu (cu (nN l.2.1 1) (au 2)) a.2.2.2.2.2)) (au 1)) (aa af)
noncomputable def s1 (m:aB):St:=.U nX (.c hU (.h m) (.h 2))
noncomputable def s2 (n:aB):St:=.U nY (.h n)
theorem SK:oB (λm=>Hb (s1 m)&&(Hb (s2 m)&&(bM (fq (s1 m)).a 10&&bM (fq (s2 m)).a 6))) 6=ax:=by decide +kernel
theorem aab (h:m<6):GS (mS (z+1) k) (s1 m) 12 40 1 10:=by
 have t:=ae.g (eZ SK h);exact ⟨t.1,af,(by decide:5<=12),(by decide:5<=40),af,au 1,aa (ae.g (ae.g t.2).2).1⟩
theorem aaa (h:m<6):GS (mS (z+1) k) (s2 m) 12 40 1 6:=by
 have a:=ae.g (ae.g (eZ SK h)).2;exact ⟨a.1,af,(by decide:5<=12),(by decide:3<=40),af,au 1,aa (ae.g a.2).2⟩
end
noncomputable def FV:Tx:=[119,114,105,116,101,40,97,91]
noncomputable def D2 (k:aB)(a b c d e:Tx)(z:aB):Tx:=S6 k++(a++59::32::(b++59::32::(c++59::32::(d++59::32::(e++59::32::(FV++[48+z]))))))
theorem vJ (u v w:Tx):(u++59::32::v)++w=u++59::32::(v++w):=ag u (59::32::v) w
theorem D0 (k:aB)(a b c d e:Tx)(z:aB)(X:Tx):D2 k a b c d e z++X=S6 k++(a++59::32::(b++59::32::(c++59::32::(d++59::32::(e++59::32::(FV++(48+z)::X)))))):=by
 unfold D2;rw [ag,vJ,vJ,vJ,vJ,vJ];rfl
theorem ud (h:Pc p tk)(g:go ax (.n,ts++tk++[.a [59]]) v=r):go ax (.n,ts) (p++59::32::v)=r:=h.A (c:=59) af g
theorem Wq (n:z<3)(s:Pc a m)(r:Pc b l)(q:Pc c j)(p:Pc d i)(o:Pc e h):go ax (.n,[]) (D2 k a b c d e z++[93])=ah (.n,SD k++(m++.a [59]::(l++.a [59]::(j++.a [59]::(i++.a [59]::(h++.a [59]::tA z)))))):=by
 have t:go ax (.n,[]) (S6 k)=ah (.n,SD k):=by
  refine C5 k ?_ λk=>?_
  ·rfl
  ·rfl
 rw [D0,yX,t];refine ud s (ud r (ud q (ud p (ud o ?_))));have g:∀f:ao cQ,go ax (.n,f) (FV++[48+z,93])=ah (.n,f++[.a iN]++[.a [40]]++[.b nA]++[.a [91]]++[.c z]++[.a [93]]):=λf=>by
  match z,n with
  |0,_=>rfl
  |1,_=>rfl
  |2,_=>rfl
 rw [g];simp only [ag,eF,d9];rfl
noncomputable def n1 (T:Tx):Tx:=ct [32,59] [59] T
def LS (l s:Tx):Prop:=(∀v,nP (l++59::v)=s++59::nP v)\/(∃U c,s=U++[c]/\d0 c [32,59]=aw/\∀v,nP (l++59::v)=s++32::59::nP v)
theorem Yn (v:Tx):nP (59::v)=59::nP v:=vG af
section
variable {X b d:Tx}{tX tb td:ao cQ}
theorem LS.XM (h:Pc s tk):LS s s:=.C λv=>by rw [h.o,Yn]
theorem B7 (d:Pc X tX)(a:H9 b tb){U:Tx}(e:X=U++[c])(f:d0 c [32,59]=aw):LS (X++32::b) (jT [X,b]):=by
 rcases a with ⟨rfl,rfl⟩|a
 ·refine aA (pO d.m) ?_;refine .y (jf U c e f (λv=>?_));rw [ag,d.o];exact aW (X++·) ((vF af).b (aW (32::·) (Yn v)))
 ·refine aA (ja d.m a.m) ?_;exact LS.XM (d.n a)
theorem ac8 (a:Pc X tX)(d:H9 b tb)(f:Pc Y tY):LS (X++32::(b++32::Y)) (jT [X,b,Y]):=by
 rcases d with ⟨rfl,rfl⟩|d
 ·have e:jT [X,[],Y]=X++32::Y:=by
   rw [pP a.m];exact aA (show jT [[],Y]=Y by unfold jT;rw [ef,ef,f.m];rfl) (aA (ja a.m f.m) af)
  refine aA e ?_;refine .C λv=>?_;rw [ag,a.o,ag];refine aW (X++·) ?_;show nP (32::32::(Y++59::v))=_;rw [Nt,f.o,Yn];rfl
 ·have e:jT [X,b,Y]=X++32::(b++32::Y):=by
   rw [pP a.m];exact aA (ja d.m f.m) (aA (ja a.m (by
    refine l6 d.w λc r e z=>?_;exact e▸af)) af)
  refine aA e ?_;exact LS.XM (a.n (d.n f))
end
theorem LS.eq (h:∀v,nP (l++59::v)=nP (l'++59::v))(g:LS l' s):LS l s:=by
 rcases g with g|⟨U,c,d,b,a⟩
 ·exact .C λv=>(h v).b (g v)
 ·exact .y (jf U c d b (λv=>(h v).b (a v)))
theorem HT {X b W:Tx}(a:Pc X tX)(d:H9 b tb)(g:∃c w,W=c::w/\aM 32 c=aw):nP (X++32::(b++32::W))=nP (jT [X,b]++32::W):=by
 rcases d with ⟨rfl,rfl⟩|d
 ·refine aA (pO a.m) ?_;rw [a.o,a.o];refine l6 g λc w e f=>?_;subst e;show X++nP (32::32::c::w)=X++nP (32::c::w);rw [Nt];exact aA (vF f) af
 ·refine aA (ja a.m d.m) ?_;rw [ag];rfl
theorem q2 (e:bT a []=aw)(d:bT b []=aw)(f:bT c []=aw):jT [a,b,c]=a++32::(b++32::c):=by
 rw [pP e];exact aA (ja d f) (aA (ja e (by cases b with|nil=>injection d|cons x b=>rfl)) af)
section
variable {X R I b d Y W:Tx}{tX tR tI tb td tY tW:ao cQ}
theorem Wv (g:Pc X tX)(f:H9 b tb)(e:H9 d td):LS (X++32::(b++32::(gq++32::d))) (jT [jT [X,b],gq,d]):=by
 have a:Pc gq [.a gq]:=SX;have c:=MT g f;have h:jT [jT [X,b],gq,d]=jT [jT [X,b]++32::gq,d]:=by
  rcases e with ⟨rfl,_⟩|e
  ·rw [pP c.m];exact aA (pO a.m) (aA (ja c.m a.m) (aA (pO (c.n a).m) af))
  ·refine aA (q2 c.m a.m e.m) (aA (ja (c.n a).m e.m) ?_);exact (ag (jT [X,b]) (32::gq) (32::d)).h
 refine aA h ?_;refine LS.eq (λv=>?_) (B7 (c.n a) e (ag _ [32,101,108,115] [101]).h af);have:=HT g f (W:=gq++32::(d++59::v)) (fF 101 _ af af);have j:(X++32::(b++32::(gq++32::d)))++59::v=X++32::(b++32::(gq++32::(d++59::v))):=by
  rw [ag];refine aW (X++·) ?_;show 32::((b++_)++_)=_;rw [ag];rfl
 have i:((jT [X,b]++32::gq)++32::d)++59::v=jT [X,b]++32::(gq++32::(d++59::v)):=by
  rw [ag,ag];rfl
 refine aA j (aA i ?_);exact this
theorem Wu (e:Pc R tR)(d:Pc I tI)(a:H9 b tb)(f:Pc Y tY):LS ((R++32::I)++32::(b++32::Y)) (jT [R,jT [I,b],Y]):=by
 have g:=MT d a;refine aA (q2 e.m g.m f.m) ?_;refine LS.eq (λv=>?_) (LS.XM (e.n (g.n f)));have j:jT [R++32::I,b]=R++32::jT [I,b]:=by
  rcases a with ⟨rfl,_⟩|a
  ·exact aA (pO (e.n d).m) (aA (pO d.m) af)
  ·refine aA (ja (e.n d).m a.m) (aA (ja d.m a.m) ?_);exact ag R (32::I) (32::b)
 refine l6 f.w λc w i h=>?_;have:=HT (e.n d) a (W:=Y++59::v) (fF c (w++59::v) (by refine aA i ?_;rfl) h);rw [j] at this;have l:((R++32::I)++32::(b++32::Y))++59::v=(R++32::I)++32::(b++32::(Y++59::v)):=by
  rw [ag];refine aW ((R++32::I)++·) ?_;show 32::((b++_)++_)=_;rw [ag];rfl
 have k:(R++32::(jT [I,b]++32::Y))++59::v=(R++32::jT [I,b])++32::(Y++59::v):=by
  rw [ag,ag];refine aW (R++·) ?_;show 32::((jT [I,b]++_)++_)=_;rw [ag];rfl
 refine aA l (aA k ?_);exact this
theorem ac7 (a:Pc W tW)(f:Pc I tI)(c:H9 b tb):LS (((W++32::fQ)++32::I)++32::(b++32::iQ)) (jT [W,jT [fQ,jT [I,b],iQ]]):=by
 have d:=MT f c;have e:jT [W,jT [fQ,jT [I,b],iQ]]=jT [W++32::fQ,jT [I,b],iQ]:=by
  refine aA (q2 yT.m d.m Mz.m) (aA (q2 (a.n yT).m d.m Mz.m) (aA (ja a.m (by rfl)) ?_));exact (ag W (32::fQ) _).h
 refine aA e ?_;exact Wu (a.n yT) f c Mz
end
noncomputable def Jg:Tx:=[32,101,110,100]
noncomputable def lq (j f q m:aB)(e:Ee):Tx:=match j with
 |0=>DH++d7 1 (z4 q e)++[32,116,104,101,110,32]++fq (ka f e)
 |1=>DH++d7 1 (z4 q e)++[32,116,104,101,110,32]++fq (ka f e)++[32,101,108,115,101,32]++fq (ka (3-f) e)
 |2=>[119,104,105,108,101,32,120,32,60,32]++cU m++[32,100,111,32,98,101,103,105,110,32,120,32,58,61,32,120,32,43,32,49,59,32]++fq (ka f e)++Jg
 |3=>[114,101,112,101,97,116,32,120,32,58,61,32,120,32,45,32,49,59,32]++fq (ka f e)++[32,117,110,116,105,108,32,120,32,60,61,32]++cU m
 |4=>[102,111,114,32,120,32,58,61,32]++d7 1 (fJ e.l e.n)++[32,116,111,32]++d7 1 (fJ e.r e.n)++[32,100,111,32]++fq (ka f e)
 |5=>[102,111,114,32,120,32,58,61,32]++d7 1 (fJ e.l e.n)++[32,100,111,119,110,116,111,32]++d7 1 (fJ e.r e.n)++[32,100,111,32]++fq (ka f e)
 |_=>[98,101,103,105,110,32]++fq (ka f e)++[59,32]++fq (ka (3-f) e)++Jg
section
variable {e:Ee}
theorem Th (E:Eo' e)(a:f<4):H9 (fq (ka f e)) (fG (ka f e)):=(Hh _).1 (Ej (z:=0) (k:=0) E a).1.e
theorem w3 {a b:Tx}:a++(b++[c])=(a++b)++[c]:=(ag a b [c]).h
theorem MX:fq (.U nX (.c hK (.g nX) (.h 1)))=[120,32,58,61,32,120,32,43,32,49]/\fq (.U nX (.c hU (.g nX) (.h 1)))=[120,32,58,61,32,120,32,45,32,49]:=⟨eA (by decide +kernel),eA (by decide +kernel)⟩
theorem MQ (E:Eo' e){j f q m:aB}(r:j<7)(t:f<4)(p:m<4):LS (lq j f q m e) (fq (Ji j f q m e)):=by
 have a:=Th E t;have h:=Th E (f:=3-f) (aQ (fO 3 f) (aa af));have b:Pc (DH++d7 1 (z4 q e)++yG) (([.a zm]++c5 1 (z4 q e))++[.a oN]):=(pIf.n (pQ (z4 q e) (Xu (z:=0) (k:=0) E q).1)).n Mx;have n:=ae.g (eZ H3 p);have L:∀i,i<5->Pc (d7 1 (fJ i e.n)) (c5 1 (fJ i e.n)):=λi s=>qc _ (lu (z:=0) (k:=0) (bb s) E.n).1 1;have l:∀g,Pc ([102,111,114,32]++nX++sR++d7 1 (fJ e.l e.n)++DD g++d7 1 (fJ e.r e.n)++[32,100,111]) _:=λg=>(Pc.F g ((aat.n (nK (x:=nX) af)).C (L e.l E.l)) (L e.r E.r)).n pDo;refine X5 r ?_ ?_ ?_ ?_ ?_ ?_ ?_
 ·have:=B7 b a ((λA=>(ag A [32,116,104,101] [110]).h) _) af;show LS (DH++d7 1 (z4 q e)++[32,116,104,101,110,32]++fq (ka f e)) (jT [_,_]);rw [ag] at this ⊢;exact this
 ·have:=Wv b a h;show LS (DH++d7 1 (z4 q e)++[32,116,104,101,110,32]++fq (ka f e)++[32,101,108,115,101,32]++fq (ka (3-f) e)) (jT [jT [_,_],gq,_]);rw [ag (as:=DH++_++_++_),ag (as:=DH++_++_),ag (as:=DH++_)];rw [ag (as:=DH++_)] at this;exact this
 ·have d:Pc (fq (.U nX (.c hK (.g nX) (.h 1)))++[59]) _:=(((Hh (.U nX (.c hK (.g nX) (.h 1)))).1 (bK af Ci.1)).Y (λq=>by rw [MX.1] at q;injection q.1)).u af af;have:=ac7 (show Pc ([119,104,105,108,101,32]++d7 1 (.c [60] (.g nX) (.h m))++[32,100,111]) _ from (Mv.n (pQ _ (Lz.c n.1))).n pDo) d a;show LS ([119,104,105,108,101,32,120,32,60,32]++cU m++[32,100,111,32,98,101,103,105,110,32,120,32,58,61,32,120,32,43,32,49,59,32]++fq (ka f e)++Jg) (jT [_,jT [fQ,jT [_,_],iQ]]);rw [ag (bs:=fq _),ag (as:=[119,104,105,108,101,32,120,32,60,32]++cU m)];rw [MX.1,ag (as:=_++[32,100,111]),ag (bs:=[32,100,111]),ag (as:=[119,104,105,108,101,32]++_)] at this;refine aA MX.1 ?_;exact this
 ·have d:Pc (fq (.U nX (.c hU (.g nX) (.h 1)))++[59]) _:=(((Hh (.U nX (.c hU (.g nX) (.h 1)))).1 (bK af Ci.2.1)).Y (λq=>by rw [MX.2] at q;injection q.1)).u af af;have:=Wu Hy d a (Mw.n (pQ _ (Lz.c (ae.g n.2).1)));show LS ([114,101,112,101,97,116,32,120,32,58,61,32,120,32,45,32,49,59,32]++fq (ka f e)++[32,117,110,116,105,108,32,120,32,60,61,32]++cU m) (jT [jZ,jT [_,_],_]);rw [ag,ag];rw [MX.2] at this;exact this
 ·have:=B7 (l ax) a (U:=[102,111,114,32]++nX++sR++d7 1 (fJ e.l e.n)++DD ax++d7 1 (fJ e.r e.n)++[32,100]) (c:=111) (ag _ [32,100] [111]).h af;show LS ([102,111,114,32,120,32,58,61,32]++d7 1 (fJ e.l e.n)++[32,116,111,32]++d7 1 (fJ e.r e.n)++[32,100,111,32]++fq (ka f e)) (jT [_,_]);rw [ag (bs:=[32,100,111])] at this;rw [ag (bs:=[32,100,111,32])];exact this
 ·have:=B7 (l aw) a (U:=[102,111,114,32]++nX++sR++d7 1 (fJ e.l e.n)++DD aw++d7 1 (fJ e.r e.n)++[32,100]) (c:=111) (ag _ [32,100] [111]).h af;show LS ([102,111,114,32,120,32,58,61,32]++d7 1 (fJ e.l e.n)++[32,100,111,119,110,116,111,32]++d7 1 (fJ e.r e.n)++[32,100,111,32]++fq (ka f e)) (jT [_,_]);rw [ag (bs:=[32,100,111])] at this;rw [ag (bs:=[32,100,111,32])];exact this
 ·have d:Pc (fq (ka f e)++[59]) (fG (ka f e)++[.a [59]]):=by
   rcases a with ⟨q,o⟩|a
   ·refine aA q (aA o ?_);exact Pc.E af
   ·exact a.u af af
  have:=Wu yT d h Mz;show LS ([98,101,103,105,110,32]++fq (ka f e)++[59,32]++fq (ka (3-f) e)++Jg) (jT [fQ,jT [_,_],iQ]);rw [ag,ag,ag];rw [ag] at this;have u:(32::(fq (ka f e)++[59]))++32::(fq (ka (3-f) e)++32::iQ)=32::(fq (ka f e)++(59::32::(fq (ka (3-f) e)++32::iQ))):=by
   show 32::((fq (ka f e)++[59])++_)=_;rw [ag];rfl
  rw [u] at this;exact this
end
noncomputable def pT (k:aB):Tx:=match k with
 |0=>[112,114,111,99,101,100,117,114,101,32,115,59,32,118,97,114,32,121,32,58,32,105,110,116,101,103,101,114,59,32,98,101,103,105,110,32,102,111,114,32,121,32,58,61,32,120,32,100,111,119,110,116,111,32,49,32,100,111,32,98,101,103,105,110,32,119,114,105,116,101,40,121,32,42,32,121,41,59,32,121,32,58,61,32,48,32,101,110,100,32,101,110,100,59]
 |_=>[112,114,111,99,101,100,117,114,101,32,113,40,117,44,32,118,97,114,32,118,41,59,32,118,97,114,32,119,32,58,32,105,110,116,101,103,101,114,59,32,112,114,111,99,101,100,117,114,101,32,114,40,118,97,114,32,122,41,59,32,98,101,103,105,110,32,119,32,58,61,32,119,32,43,32,117,59,32,122,32,58,61,32,122,32,42,32,50,32,43,32,119,59,32,120,32,58,61,32,120,32,45,32,49,32,101,110,100,59,32,98,101,103,105,110,32,114,40,119,41,59,32,105,102,32,117,32,62,32,49,32,116,104,101,110,32,113,40,117,32,45,32,49,44,32,118,41,59,32,114,40,118,41,59,32,119,114,105,116,101,40,118,41,32,101,110,100,59]
noncomputable def fA:Tx:=[112,114,111,103,114,97,109,32,116,57,59,32,118,97,114,32,120,32,58,32,105,110,116,101,103,101,114,59,32,121,32,58,32,105,110,116,101,103,101,114,59,32,97,32,58,32,97,114,114,97,121,32,91]
noncomputable def fB:Tx:=[93,32,111,102,32,105,110,116,101,103,101,114,59,32]
noncomputable def fC:Tx:=[32,98,101,103,105,110,32]
noncomputable def fD:Tx:=[32,101,110,100,46]
noncomputable def tX:Tx:=[119,114,105,116,101,40,120,41]
noncomputable def VM:Tx:=[119,114,105,116,101,40,121,32,43,32]
noncomputable def wA (z:aB):Tx:=FV++[48+z,93,41]
noncomputable def JE (h s:Tx)(d k:aB)(a b c f e:Tx)(z:aB)(g:Tx):Tx:=fA++(d::(fB++(h++(pT k++(fC++(a++59::32::(b++59::32::(c++59::32::(f++59::32::(e++59::32::(wA z++59::32::(s++59::32::(VM++(g++41::fD))))))))))))))
noncomputable def hV (a:Tx)(k:aB):Tx:=(wo k).K 13++(a++(wo k).m 13)
noncomputable def hS (s:Tx):Tx:=41::59::32::(s++Ea.m 11)
theorem HL (h s:Tx)(d k:aB)(a b c f e:Tx)(z:aB)(g:Tx):JE h s d k a b c f e z g=T7 rH d (hV h k) (hC k) (D2 k a b c f e z) (hS s) (32::g) oU:=by
 have e:∀X,hS s++X=41::59::32::(s++(Ea.m 11++X)):=λX=>by
  show 41::59::32::((s++_)++X)=_;rw [ag]
 unfold T7 hV;rw [D0,e,ag ((wo k).K 13),ag h];refine C5 k ?_ λk=>?_
 ·rfl
 ·rfl
theorem aaN (h:bT p []=aw)(a:bT (jT ts) []=aw):jT (p::ts)=p++32::jT ts:=by rw [pP h,ja h a]
theorem vD (h:bT (fq s) []=aw):q7 a (.E s r)=q7 (a++59::32::fq s) r:=by
 show q7 (jT [a++[59],fq s]) r=_;refine aA (ja (by cases a<;>rfl) h) ?_;rw [ag];rfl
theorem Xg (h:bT (fq s) []=aw):q7 a (.nh s)=a++59::32::fq s:=by
 show jT [a++[59],fq s]=_;refine aA (ja (by cases a<;>rfl) h) ?_;rw [ag];rfl
theorem txe {t:Tx}{r:Tx}(h:t=c::r):bT t []=aw:=aA h af
theorem NK (h:bT a []=aw):bT (a++b) []=aw:=by
 cases a with
 |nil=>injection h
 |cons x a=>rfl
theorem Mm:jK (qq 0)=[pT 0]/\jK (qq 1)=[pT 1]:=by
 have h:bT (match jK (qq 0) with|[t]=>t|_=>[]) (pT 0)&&bT (match jK (qq 1) with|[t]=>t|_=>[]) (pT 1)=ax:=by decide +kernel
 have h:=ae.g h;exact ⟨aW (λt=>[t]) (eA h.1),aW (λt=>[t]) (eA h.2)⟩
theorem ug:∀z:aB,z<3->cU ((z+1:aB):aU)=[49+z]/\cU ((z:aB):aU)=[48+z]:=by decide +kernel
noncomputable def raw (b:Bl):Tx:=[112,114,111,103,114,97,109,32]++t9++[59,32]++NF b++[46]
noncomputable def Od (z:aB)(s:St)(big:aB):St:=.E (.R (.k nA (.h z))) (.E s (.nh (.R (.c hK (.g nY) (.h big)))))
theorem Me (s r:St):sT (.E s r)=q7 (fq s) r:=af
theorem P5 (e:z<3)(j:bT (fq s) []=aw)(i:bT (fq x2) []=aw)(h:bT (fq x3) []=aw)(g:bT (fq x4) []=aw)(f:bT (fq x5) []=aw) :
  sT (.E x1 (.E x2 (.E x3 (.E x4 (.E x5 (Od z s big))))))=fq x1++59::32::(fq x2++59::32::(fq x3++59::32::(fq x4++59::32::(fq x5++59::32::(wA z++59::32::(fq s++59::32::(VM++(cU big++[41])))))))):=by
 have b:fq (.R (.k nA (.h z)))=wA z:=by
  show [119,114,105,116,101,40]++(nA++[91]++cU z++[93])++[41]=_;exact aA (ug z e).2 af
 have a:fq (.R (.c hK (.g nY) (.h big)))=VM++(cU big++[41]):=by
  show (VM++cU big)++[41]=_;rw [ag]
 unfold Od;have d:bT (fq (.R (.k nA (.h z)))) []=aw:=by refine aA b ?_;rfl
 have c:bT (fq (.R (.c hK (.g nY) (.h big)))) []=aw:=by refine aA a ?_;rfl
 rw [Me];refine aA (vD i) (aA (vD h) (aA (vD g) (aA (vD f) (aA (vD d) (aA (vD j) (aA (Xg c) (aA b (aA a ?_))))))));simp only [vJ]
theorem su (h:bT p []=aw):bT (jT (p::ts)) []=aw:=by
 rw [pP h];cases a:bT (jT ts) [] with
 |true=>refine aA (eA a) (aA (pO h) ?_);exact h
 |false=>refine aA (ja h a) ?_;exact NK h
theorem aaM (h:bT (jT ts) []=aw):∀a:ao Tx,a.oG (λp=>!bT p [])=ax->jT (a++ts)=a.kJ (·++[32])++jT ts/\bT (jT (a++ts)) []=aw:=by
 intro e
 induction e with
 |nil=>
  intro _;exact ⟨af,h⟩
 |cons p a c=>
  intro b;have b:=ae.g b;have i:=c b.2;have d:=jh.g b.1;refine ⟨?_,su d⟩;show jT (p::(a++ts))=_;refine aA (aaN d i.2) ?_;rw [i.1,List.flatMap_cons,ag,ag];rfl
noncomputable def xT (xs:ao (Tx×aJ aB)):Tx:=(xs.d vT).kJ (·++[32])
theorem Xw (d:z<3)(f:(xs.d vT).oG (λp=>!bT p [])=ax)(h:bT (sT s) []=aw):NF (.e (HD (z+1)++xs) (qq k) s)=BH++32::(vT (nX,aq)++32::(vT (nY,aq)++32::((nA++FW++[49+z]++VN)++32::(xT xs++(pT k++32::(fQ++32::(sT s++32::iQ))))))):=by
 have g:jK (qq k)=[pT k]:=by
  refine C5 k ?_ λk=>?_
  ·exact Mm.1
  ·exact Mm.2
 have c:vT (nA,ah (z+1))=nA++FW++[49+z]++VN:=by
  show nA++FW++cU ((z+1:aB):aU)++VN=_;exact aA (ug z d).1 af
 show jT ([BH]++(vT (nX,aq)::vT (nY,aq)::vT (nA,ah (z+1))::xs.d vT)++jK (qq k)++[fQ,sT s,iQ])=_;refine aA g (aA c ?_);unfold xT;generalize sT s=r at h;have a:bT (pT k) []=aw:=by cases k<;>rfl
 generalize pT k=q at a;have b:jT [fQ,r,iQ]=_:=q2 af h af;have i:=aaN (ts:=[fQ,r,iQ]) a (by refine aA b ?_;rfl);have e:=(aaM (ts:=q::[fQ,r,iQ]) (su a) (BH::vT (nX,aq)::vT (nY,aq)::(nA++FW++[49+z]++VN)::xs.d vT) f).1;rw [i,b] at e;simp only [List.flatMap_cons,ag,eF,d9] at e ⊢;exact e
theorem Mh (d:z<3)(i:(xs.d vT).oG (λp=>!bT p [])=ax)(q:bT (fq s) []=aw)(o:bT (fq x1) []=aw)(n:bT (fq x2) []=aw)(m:bT (fq x3) []=aw)(l:bT (fq x4) []=aw)(j:bT (fq x5) []=aw) :
  raw (.e (HD (z+1)++xs) (qq k) (.E x1 (.E x2 (.E x3 (.E x4 (.E x5 (Od z s big)))))))=JE (xT xs) (fq s) (49+z) k (fq x1) (fq x2) (fq x3) (fq x4) (fq x5) z (cU big):=by
 have h:=P5 (big:=big) d (x1:=x1) q n m l j;unfold raw;refine aA (Xw d i (h▸NK o)) (aA h ?_);generalize fq x1=a;generalize fq x2=b;generalize fq x3=c;generalize fq x4=f;generalize fq x5=e;generalize fq s=u;generalize cU big=g;generalize xT xs=w;have t:∀X:Tx,[112,114,111,103,114,97,109,32]++t9++[59,32]++(BH++32::(vT (nX,aq)++32::(vT (nY,aq)++32::((nA++FW++[49+z]++VN)++32::(w++(pT k++32::(fQ++32::(X++32::iQ))))))))++[46]=fA++((49+z)::(fB++(w++(pT k++(fC++(X++fD)))))):=λX=>by
  have r:(w++(pT k++32::(fQ++32::(X++32::iQ))))++[46]=w++(pT k++(fC++(X++fD))):=by
   rw [ag,ag];refine aW (w++·) (aW (pT k++·) ?_);show 32::(fQ++32::((X++32::iQ)++[46]))=_;rw [ag];rfl
  exact dw r af
 rw [t];unfold JE;rw [vJ,vJ,vJ,vJ,vJ,vJ,vJ,ag,ag];rfl
noncomputable def zU (i:aB):St:=[.R (.g [119]),.R (.g nA),.R (.k nX (.h 0)),.iR nY (.h 0) (.h 1),.U nA (.h 1),.ip nX [],.ip nQ [.g nX],.ip nQ [.h 1,.g nA],.ti nA (.h 1) (.h 2) ax .iS].l i (.R (.g nX))
noncomputable def JQ (i:aB):ao (Tx×aJ aB):=[[],[],[],[],[],[],[],[],[],[(nX,aq)],[([98],ah 0)],[(nQ,aq),(nS,aq)]].l i []
noncomputable def gV (i k:aB):Tx:=hV (xT (JQ i)) k
noncomputable def gS (i:aB):Tx:=hS (fq (zU i))
theorem g12 (k:aB):gV 12 k=wo k/\gS 12=Ea:=⟨ru 13 (wo k),af⟩
theorem HW {a:Tx}(h:a≠[])(j:d0 91 a=aw)(i:d0 93 a=aw)(g:d0 42 a=aw)(f:d0 44 a=aw)(e:d0 43 a=aw)(d:d0 41 a=aw):JH a:=by
 refine ⟨h,λc b=>?_⟩;rcases aZ.g b with h|b
 ·refine aA (aD h) ?_;exact j
 rcases aZ.g b with h|b
 ·refine aA (aD h) ?_;exact i
 rcases aZ.g b with h|b
 ·refine aA (aD h) ?_;exact g
 rcases aZ.g b with h|b
 ·refine aA (aD h) ?_;exact f
 rcases aZ.g b with h|b
 ·refine aA (aD h) ?_;exact e
 rcases aZ.g b with h|b
 ·exact aA (aD h) d
 ·injection b
theorem V5 (k:aB):Jj (hC k)=ax:=by cases k<;>rfl
theorem Gb:JH [32,59]:=HW (cP _ _) af af af af af af
theorem Rk:JH [32,32]:=HW (cP _ _) af af af af af af
noncomputable def Q3 (r:Tx->Tx)(i:aB):bC:=bT (r rH) rH&&(bT (r (gV i 0)) (gV i 0)&&(bT (r (gV i 1)) (gV i 1)&&(bT (r (gS i)) (gS i)&&bT (r oU) oU)))
theorem aaZ (h:Q3 r i=ax)(k:aB):r rH=rH/\r (gV i k)=gV i k/\r (gS i)=gS i/\r oU=oU:=by
 refine gl ?_;intro f;obtain ⟨e,h⟩:=ae.g h;obtain ⟨d,h⟩:=ae.g h;have a:=ae.g h;obtain ⟨c,b⟩:=ae.g a.2;refine fK (eA e) ?_ (eA c) (eA b);refine C5 k ?_ λk=>?_
 ·exact eA d
 ·exact eA a.1
theorem S0 {c:aB}{v:Tx}(h:aM 32 c=aw):n1 (c::v)=c::n1 v:=iW (by show (aM 32 c&&_)=aw;refine aA h ?_;rfl)
theorem Wn:∀l:Tx,(∀c∈l,eE c=ax)->n1 l=l:=by
 intro b
 induction b with
 |nil=>
  intro _;exact af
 |cons c l a=>
  intro h;exact (S0 (b6.i λq=>by have:=h c (.head _);have this:=aD q▸this;injection this)).b (aW (c::·) (a λd e=>h d (.R _ e)))
theorem NG (n:aB):n1 (32::cU n)=32::cU n/\nP (32::cU n)=32::cU n:=by
 have b:=λc=>@xu n c;cases h:cU (n:aU) with
 |nil=>exact ⟨af,af⟩
 |cons d l=>
  have b:=h▸b;have a:=b d (.head _);have e:aM 59 d=aw:=b6.i λq=>by have a:=aD q▸a;injection a
  have f:aM 32 d=aw:=b6.i λq=>by have a:=aD q▸a;injection a
  refine ⟨(iW (by show (ax&&(aM 59 d&&ax))=aw;refine aA e ?_;rfl)).b (aW (32::·) (Wn _ b)),(vF f).b (aW (32::·) ?_)⟩;have:=HU (d::l) [] b;rw [bD] at this;exact this.b (bD _)
theorem Rh {a b:Tx}{x:aB}(h:aM x 49=aw/\aM x 50=aw/\aM x 51=aw)(c:z<3):ct (x::a) b [49+z]=[49+z]:=by
 refine iW ?_;show (aM x (49+z)&&_)=aw
 match z,c with
 |0,_=>refine aA h.1 ?_;rfl
 |1,_=>refine aA h.2.1 ?_;rfl
 |2,_=>refine aA h.2.2 ?_;rfl
theorem HP:oB (λi=>Q3 n1 i&&Q3 nP i) 13=ax:=by decide +kernel
theorem aah {x:aB}{a b:Tx}(e:JH (x::a))(f:Q3 (ct (x::a) b) i=ax)(c:z<3)(h:aM x 49=aw/\aM x 50=aw/\aM x 51=aw)(u:Tx)(d:ct (x::a) b g=g):ct (x::a) b (T7 rH (49+z) (gV i k) (hC k) u (gS i) g oU)=T7 rH (49+z) (gV i k) (hC k) (ct (x::a) b u) (gS i) g oU:=by
 have f:=aaZ f k;exact aA (aa7 e (V5 k) (Rh h c)) (aA f.1 (aA f.2.1 (aA f.2.2.1 (aA f.2.2.2 (aA d af)))))
theorem S1 (b:i<13)(a:z<3)(u:Tx)(n:aB):n1 (T7 rH (49+z) (gV i k) (hC k) u (gS i) (32::cU n) oU)=T7 rH (49+z) (gV i k) (hC k) (n1 u) (gS i) (32::cU n) oU:=aah Gb (ae.g (eZ HP b)).1 a (dX af af af) u (NG n).1
theorem Xm (b:i<13)(a:z<3)(u:Tx)(n:aB):nP (T7 rH (49+z) (gV i k) (hC k) u (gS i) (32::cU n) oU)=T7 rH (49+z) (gV i k) (hC k) (nP u) (gS i) (32::cU n) oU:=aah Rk (ae.g (eZ HP b)).2 a (dX af af af) u (NG n).2
def N1 (X Y:Tx):Prop:=∀W,n1 (W++X)=n1 (W++Y)
theorem N1.XK (h:N1 X Y)(p:Tx):N1 (p++X) (p++Y):=λW=>by
 have:=h (W++p);rw [ag,ag] at this;exact this
theorem N1.tr (h:N1 X Y)(a:N1 Y Z):N1 X Z:=λW=>(h W).b (a W)
theorem N1.abv {U:Tx}(f:d0 c [32,59]=aw)(v:Tx):N1 ((U++[c])++32::59::v) ((U++[c])++59::v):=λW=>by
 have k:=λX=>jU (a:=[32,59]) (b:=[59]) (c:=c) (cP _ _) f (v:=X) (W++U) 0 (bG _);have e:∀X:Tx,W++((U++[c])++X)=(W++U)++c::X:=λX=>by rw [ag,ag];rfl
 rw [e,e];have d:=k (32::59::v);rw [(show gk [32,59] [59] 0 (32::59::v)=gk [32,59] [59] 0 (59::v) from (S0 (c:=59) af).h)] at d;exact d.b (k (59::v)).h
theorem QI (O:z<3)(A:Pc a ta)(y:Pc b tb)(W:LS j c)(V:LS g d)(u:Pc e te)(N:∃x r,j=x::r/\aM 32 x=aw)(M:∃x r,g=x::r/\aM 32 x=aw):n1 (nP (D2 k a b j g e z))=n1 (D2 k a b c d e z):=by
 have i:∀{w:Tx},(∃x r,w=x::r/\aM 32 x=aw)->∀X,nP (59::32::(w++X))=59::32::nP (w++X):=fun {w} P X=>by
  refine l6 P λx r f m=>?_;subst f;rw [Yn];exact aW (59::·) (vF m)
 have ez:nP (59::32::(FV++[48+z]))=59::32::(FV++[48+z]):=by
  match z,O with
  |0,_=>rfl
  |1,_=>rfl
  |2,_=>rfl
 have t:nP (59::32::(e++59::32::(FV++[48+z])))=59::32::(e++59::32::(FV++[48+z])):=by rw [i u.w,u.o,ez]
 have T:∀X,(∃x r,X=x::r/\aM 32 x=aw)->nP (S6 k++X)=S6 k++nP X:=λX Z=>by
  refine l6 Z λx r f m=>?_;subst f;have B:∀v,nP (32::x::v)=32::nP (x::v):=λv=>vF m;refine C5 k ?_ λk=>?_
  ·exact aW ([32,121,41,59,32,121,32,58,61,32,48,32,101,110,100,32,101,110,100,59,32,98,101,103,105,110]++·) (B r)
  ·exact aW ([32,118,41,59,32,114,40,118,41,59,32,119,114,105,116,101,40,118,41,32,101,110,100,59,32,98,101,103,105,110]++·) (B r)
 have d4:∃Y,nP (g++59::32::(e++59::32::(FV++[48+z])))=Y/\N1 Y (d++59::32::(e++59::32::(FV++[48+z]))):=by
  refine gl ?_;intro C;rw [Yn] at t;refine gl ?_;intro C;rcases V with h|⟨U,x,p,o,n⟩
  ·exact bQ _ ((h _).b (aW (d++·) t)) (λ_=>af)
  ·refine bQ _ ((n _).b (aW (λq=>d++32::q) t)) ?_;rw [p];exact N1.abv o _
 refine bf d4 λD F J=>?_;have d3:∃Y,nP (j++59::32::(g++59::32::(e++59::32::(FV++[48+z]))))=Y/\N1 Y (c++59::32::D):=by
  have s:nP (59::32::(g++59::32::(e++59::32::(FV++[48+z]))))=59::32::D:=by rw [i M,F]
  rw [Yn] at s;refine gl ?_;intro C;rcases W with h|⟨U,x,p,o,n⟩
  ·exact bQ _ ((h _).b (aW (c++·) s)) (λ_=>af)
  ·refine bQ _ ((n _).b (aW (λq=>c++32::q) s)) ?_;refine aA p ?_;exact N1.abv o _
 refine bf d3 λY3 G L=>?_;refine l6 A.w λH I ea l=>?_;unfold D2;refine aA (T _ (fF H (I++_) (by rw [ea];rfl) l)) ?_;rw [A.o,i y.w,y.o,i N,G];have:=(L.tr (((J.XK [59,32]).XK c))).XK [59,32] |>.XK b |>.XK [59,32] |>.XK a |>.XK (S6 k);exact this []
theorem Hi (j f q m:aB)(e:Ee):bT (fq (Ji j f q m e)) []=aw:=by
 refine nt6 j ?_ ?_ ?_ ?_ ?_ ?_ λz=>?_
 ·exact su af
 ·exact su (su af)
 ·exact su af
 ·exact su af
 ·exact su af
 ·exact su af
 ·exact su af
theorem Nn (k:aB)(e:Ee):bT (fq (Em k e)) []=aw:=by cases k<;>rfl
theorem wg (h:Hb s=ax)(a:bT (fq s) []=aw):Pc (fq s) (fG s):=((Hh s).1 h).Y λq=>by have a:=q.1▸a;injection a
theorem HG (j f q m:aB)(e:Ee):∃x r,lq j f q m e=x::r/\aM 32 x=aw:=by
 refine nt6 j ?_ ?_ ?_ ?_ ?_ ?_ λz=>?_
 ·exact fF _ _ af af
 ·exact fF _ _ af af
 ·exact fF _ _ af af
 ·exact ⟨_,_,af,af⟩
 ·exact fF _ _ af af
 ·exact fF _ _ af af
 ·exact ⟨_,_,af,af⟩
section
variable (P:Pr)
noncomputable def Pr.A:St:=Ji P.H P.L P.q P.w P.e
noncomputable def Pr.B:St:=Ji P.I P.M P.q P.w P.g
noncomputable def Pr.D:St:=Em P.k P.e
noncomputable def Pr.O:Tx:=D2 P.k (fq (s1 P.m)) (fq (s2 P.n)) (fq P.A) (fq P.B) (fq P.D) P.z
noncomputable def Pr.G:Tx:=T7 rH (49+P.z) (wo P.k) (hC P.k) (n1 P.O) Ea (32::cU P.E) oU
noncomputable def Pr.tM:ao cQ:=SD P.k++(fG (s1 P.m)++.a [59]::(fG (s2 P.n)++.a [59]::(fG P.A++.a [59]::(fG P.B++.a [59]::(fG P.D++.a [59]::tA P.z)))))
end
section
variable {P:Pr}
theorem Pr.gA (h:P.F):GS (mS (P.z+1) P.k) P.A 20 250 5 220:=SH h.e h.k1 h.f1 h.w
theorem Pr.gB (h:P.F):GS (mS (P.z+1) P.k) P.B 20 250 5 220:=SH h.g h.k2 h.f2 h.w
theorem Pr.gD (h:P.F):GS (mS (P.z+1) P.k) P.D 12 40 1 40:=aa2 h.e
theorem Pr.g1 (h:P.F):GS (mS (P.z+1) P.k) (s1 P.m) 12 40 1 10:=aab h.m
theorem Pr.g2 (h:P.F):GS (mS (P.z+1) P.k) (s2 P.n) 12 40 1 6:=aaa (bb h.n)
noncomputable def Pr.RM (P:Pr)(i:aB):Bl:=.e (HD (P.z+1)++JQ i) (qq P.k) (P.J (Od P.z (zU i) P.E))
noncomputable def Pr.Z (P:Pr)(i:aB):Tx:=T7 rH (49+P.z) (gV i P.k) (hC P.k) (n1 P.O) (gS i) (32::cU P.E) oU
theorem Pr.t12:P.Z 12=P.G:=by unfold Pr.Z;exact (g12 P.k).1▸(g12 P.k).2▸af
theorem VH:oB (λi=>((JQ i).d vT).oG (λp=>!bT p [])&&!bT (fq (zU i)) []) 13=ax:=by decide +kernel
theorem Pr.abt (h:P.F)(a:i<13):raw (P.RM i)=T7 rH (49+P.z) (gV i P.k) (hC P.k) P.O (gS i) (32::cU P.E) oU:=
 have t:=ae.g (eZ VH a)
 (Mh h.z t.1 (jh.g t.2) (x1:=s1 P.m) (x2:=s2 P.n) (x3:=P.A) (x4:=P.B) (x5:=P.D) af af (Hi _ _ _ _ _) (Hi _ _ _ _ _) (Nn _ _)).b (HL _ _ _ _ _ _ _ _ _ _ _)
theorem Pr.XH (h:P.F)(a:i<13):n1 (raw (P.RM i))=P.Z i:=by refine aA (Pr.abt h a) ?_;rw [S1 a h.z];rfl
theorem Pr.abr (h:P.F):n1 (nP (JE [] Mine.Internal.P.tX (49+P.z) P.k (fq (s1 P.m)) (fq (s2 P.n)) (lq P.H P.L P.q P.w P.e) (lq P.I P.M P.q P.w P.g) (fq P.D) P.z (cU P.E)))=P.G:=by
 rw [HL,(show ∀u g,T7 rH (49+P.z) (hV [] P.k) (hC P.k) u (hS Mine.Internal.P.tX) g oU=T7 rH (49+P.z) (gV 12 P.k) (hC P.k) u (gS 12) g oU from λz z=>af),Xm (by decide) h.z,S1 (by decide) h.z,QI h.z (wg (Pr.g1 h).e af) (wg (Pr.g2 h).e af) (MQ h.e h.k1 h.f1 h.w) (MQ h.g h.k2 h.f2 h.w) (wg (Pr.gD h).e (Nn _ _)) (HG _ _ _ _ _) (HG _ _ _ _ _),← Pr.t12];rfl
theorem Pr.NX (h:P.F):go ax (.n,[]) (n1 P.O++[93])=ah (.n,P.tM):=by
 exact dw (show ct [32,59] [59] (P.O++[93])=n1 P.O++[93] from jU Gb.1 (Gb.2 93 af) P.O 0 (bG _)) (Hp (cP _ _) sm _ _ (au _) _ _ (Wq (k:=P.k) h.z (wg (Pr.g1 h).e af) (wg (Pr.g2 h).e af) (wg (Pr.gA h).e (Hi _ _ _ _ _)) (wg (Pr.gB h).e (Hi _ _ _ _ _)) (wg (Pr.gD h).e (Nn _ _))))
theorem Hr (a:i<12)(b:Jj c=ax)(u:Tx):mQ i (u++[c])=mQ i u++[c]:=jU (mG a).1.1 ((mG a).1.2 c b) u 0 (bG _)
theorem aay (b:i<12)(a:j<12)(d:Jj c=ax)(g:go ax (.n,[]) (u++[c])=ah (.n,t)):go aw (.n,[]) (mQ j (mQ i u)++[c])=ah (.n,t):=by
 have f:=Hq g i (cK b);rw [Hr b d] at f;have e:=Hq f j (cK a);rw [Hr a d] at e;exact rI _ _ _ _ e
theorem Gr {n:aB}(h:n<10 ^ 20):go ax (.n,[]) ((32::cU n)++[41])=ah (.n,[.c n,.a [41]]):=(Mr h).A (c:=41) (ts:=[]) (v:=[]) af af
theorem Pr.Ts (h:P.F):P.O.a<=31+(10+(6+(220+(220+(40+20))))):=by
 show (S6 P.k++_).a<=_;have a:(S6 P.k).a<=31:=by
  match P.k with
  |0=>exact aa af
  |k+1=>exact aa af
 exact cu a (cu (Pr.g1 h).g (ab (aj (cu (Pr.g2 h).g (aj (cu (Pr.gA h).g (aj (cu (Pr.gB h).g (aj (cu (Pr.gD h).g (au 11)) 2)) 2)) 2)) 2) (aa af)))
theorem VI:oB (λi=>bM (gV i 0).a 210&&(bM (gV i 1).a 210&&bM (gS i).a 40)) 13=ax:=by decide +kernel
theorem aaE {i z k big m:aB}(d:i<13)(e:big<10 ^ 20)(c:u.a<=m):(T7 rH (49+z) (gV i k) (hC k) u (gS i) (32::cU big) oU).a<=m+400:=by
 have t:=ae.g (eZ VI d);have a:=ae.g t.2;have b:(gV i k).a<=210:=by
  refine C5 k ?_ λk=>?_
  ·exact aa t.1
  ·exact aa a.1
 show (rH++91::([49+z]++93::(gV i k++hC k::(u++93::(gS i++43::((32::cU big)++41::oU)))))).a<=m+400;refine ab (cu (au 52) (az (az (az (cu b (az (cu c (az (cu (aa a.2) (az (az (cu (uy e) (au 6))))))))))))) (ab (aV (aW (·+3) ((bW 52 210 _).h.b (cv 262 (m+70))))) (ar (aa af:335<=400) m))
theorem Pr.adD (h:P.F){i:aB}(a:i<13):(T7 rH (49+P.z) (gV i P.k) (hC P.k) P.O (gS i) (32::cU P.E) oU).a<=947:=Mine.Internal.P.aaE a h.Of (Pr.Ts h)
theorem Pr.abu (h:P.F){i:aB}(a:i<13):(P.Z i).a<=947:=by
 exact Mine.Internal.P.aaE a h.Of (ab (t8 (cP _ _) (au 1) (aa af) _ _ (au _)) (ab (aV (sD _)) (Pr.Ts h)))
theorem Pr.len (h:P.F):P.G.a<=947:=dw Pr.t12 (Pr.abu h (aa af))
noncomputable def Pr.rw (P:Pr)(ts:ao cQ):ao cQ:=fG (s1 P.m)++.a [59]::(fG (s2 P.n)++.a [59]::(fG P.A++.a [59]::(fG P.B++.a [59]::(fG P.D++.a [59]::ts))))
theorem MM (d:zY e b=ax):wy e (.e b):=by
 refine bf (Gi (Q:=[]) (res:=.e []) (λg c=>by cases g with|zero=>cases c|succ g=>rfl) _ .n [] af [] _ (j5 d)) λh f a=>?_;subst f;have a:wy (e++[]) (.e (b++[])):=a;rw [bD,bD] at a;exact a
theorem Pr.lex (h:P.F){u0 u1 u2 u3 u4 e:Tx}(h0:go aw (.n,[]) (u0++[91])=ah (.n,t0))(h1:go aw (.n,[]) (u1++[hC P.k])=ah (.n,t1))(h2:go aw (.n,[]) (u2++[93])=ah (.n,P.tM))(h3:go aw (.n,[]) (u3++[43])=ah (.n,t3))(h4:go aw (.n,[]) (u4++[41])=ah (.n,[.c P.E,.a [41]]))(l5:wy e (.e te))(len:(T7 u0 (49+P.z) u1 (hC P.k) u2 u3 u4 e).a<yY):j7 (T7 u0 (49+P.z) u1 (hC P.k) u2 u3 u4 e)=mT (t0++([.c (P.z+1),.a [93]]++(t1++(SD P.k++P.rw (tA P.z++(t3++([.c P.E,.a [41]]++(te++[.e])))))))):=by
 unfold j7 Js;refine aA ((ada h.z h0 h1 h2 h3 h4 l5) yY len) ?_;show mT ((t0++([.c (P.z+1),.a [93]]++(t1++(P.tM++(t3++([.c P.E,.a [41]]++te))))))++[.e])=_;unfold Pr.tM Pr.rw;simp only [ag,eF,d9]
theorem Pr.NU (h:P.F)(n:iu (dy dS) 396 (.a [59]::ts)=res):yS (P.rw ts)=res.g λq=>.e (qY (s1 P.m) (s2 P.n::P.A::P.B::P.D::q.1),q.2):=by
 have e:∀{s:St} {a b c d:aB},GS (mS (P.z+1) P.k) s a b c d->c<=14->SR s/\jx s<=14:=λg m=>⟨(ZM _).1 g.e (ab g.h m),ab g.h m⟩;have l:=e (Pr.g1 h) (by decide);have k:=e (Pr.g2 h) (by decide);have j:=e (Pr.gA h) (by decide);have i:=e (Pr.gB h) (by decide);have f:=e (Pr.gD h) (by decide);exact V9 l.1 k.1 j.1 i.1 f.1 l.2 k.2 j.2 i.2 f.2 n
theorem Pr.H7 (h:P.F){i j:aB}(hi:i<12)(hj:j<12):j7 (mQ j (mQ i P.G))=.e (t9,P.bl):=by
 have a1:=ae.g (eZ (eZ acZ hi) hj);have a2:=ae.g (eZ (eZ acY hi) hj);have b1:go aw (.n,[]) (mQ j (mQ i (wo P.k))++[hC P.k])=ah (.n,LP P.k (prV i j)):=by
  match P.k with
  |0=>exact j5 a1.1
  |k+1=>exact j5 a1.2
 have et:mQ j (mQ i P.G)=T7 (mQ j (mQ i rH)) (49+P.z) (mQ j (mQ i (wo P.k))) (hC P.k) (mQ j (mQ i (n1 P.O))) (mQ j (mQ i Ea)) (mQ j (mQ i (32::cU P.E))) (mQ j (mQ i oU)):=by
  unfold Pr.G;exact aA (aae hi h.z) (aA (aae hj h.z) af)
 have len:(mQ j (mQ i P.G)).a<yY:=by
  refine aQ (ab (BR hj _) (bP 3 (ab (BR hi _) (bP 3 (Pr.len h))))) (aa af)
 rw [et] at len ⊢;refine aA (Pr.lex h (j5 (eZ (eZ ac0 hi) hj)) b1 (aay hi hj af (Pr.NX h)) (j5 a2.1) (aay hi hj af (Gr h.Of)) (MM a2.2) len) ?_;rw [Cm];unfold aft;refine aA (Pr.NU h (PM P.z P.E (prV i j))) ?_;rfl
end
section
variable {P:Pr}
theorem Ru {sc:ao cG}(h:kG sc p q (.e vs a f)=.e c):∃d,c=d++[.e]:=by
 have h:(match qb [] (lr q++lr vs++a.i) with
  |false=>.i
  |true=>(tU (j8 [] 3 q).1 (j8 [] 3 q).2 vs).g λw=>
   (oz sc w.1 (p+1) a).g λc=>
   (iw (c.2::sc) w.2 (p+1+c.1.a+(oS (w.2-(j8 [] 3 q).2)).a) f).g λd=>R.e ([In.g (p+1+c.1.a)]++c.1++oS (w.2-(j8 [] 3 q).2)++d++[.e]):R (ao In))=.e c:=h
 revert h;cases qb [] (lr q++lr vs++a.i) with
 |false=>intro h;injection h
 |true=>
  intro h;refine bf (R.k h) λw z i=>?_;refine bf (R.k i) λd z g=>?_;refine bf (R.k g) λe z b=>?_;injection b with b;subst b;exact ⟨_,af⟩
theorem abe {z k:aB}(d:t.wf ax=ax)(c:t.fu<=20)(b:t.sz<=100)(o:x1.wf aw=ax)(n:x2.wf aw=ax)(m:x3.wf aw=ax)(l:x4.wf aw=ax)(j:x5.wf aw=ax)(f1:x1.fu<=20)(f2:x2.fu<=20)(s:x3.fu<=20)(r:x4.fu<=20)(q:x5.fu<=20)(i:x1.sz<=250)(h:x2.sz<=250)(g:x3.sz<=250)(f:x4.sz<=250)(e:x5.sz<=250)(p:vs.a<=10):(Bl.m aw (.e vs (qq k) (.E x1 (.E x2 (.E x3 (.E x4 (.E x5 t))))))&&bM (Bl.l (.e vs (qq k) (.E x1 (.E x2 (.E x3 (.E x4 (.E x5 t))))))) 120&&bM (Bl.j (.e vs (qq k) (.E x1 (.E x2 (.E x3 (.E x4 (.E x5 t))))))) 100000)=ax:=by
 have a:(qq k).m ax=ax/\(qq k).l<=40/\(qq k).j<=1000:=by
  refine C5 k ?_ λk=>?_
  ·exact dX af (aa af) (aa af)
  ·exact dX af (aa af) (aa af)
 refine bK (bK (bK a.1 (bK o (bK n (bK m (bK l (bK j d)))))) (ml ?_)) (ml ?_)
 ·exact ab (az (bj.i ⟨bj.i ⟨(by decide:1<=40),a.2.1⟩,bj.i ⟨ab f1 (by decide),bj.i ⟨ab f2 (by decide),bj.i ⟨ab s (by decide),bj.i ⟨ab r (by decide),bj.i ⟨ab q (by decide),ab c (by decide)⟩⟩⟩⟩⟩⟩)) (aa af)
 ·exact ab (aL p (ar (aL a.2.2 (ar (az (aL i (aL h (aL g (aL f (aL e b)))))) 1)) 1)) (aa af)
theorem Pr.H8 (h:P.F){t:St}(g:t.wf ax=ax)(f:t.fu<=20)(e:t.sz<=100)(i:vs.a<=10):rj (.e vs (qq P.k) (P.J t))=kG [] 0 [] (.e vs (qq P.k) (P.J t)):=by
 have a:=Pr.gA h;have b:=Pr.gB h;have d:=Pr.gD h;have x:=Pr.g1 h;have y:=Pr.g2 h;have c:∀{m n k:aB},m<=n->n<=k->m<=k:=ab;unfold rj;exact aA (show (Bl.m aw (.e vs (qq P.k) (P.J t))&&bM (Bl.l (.e vs (qq P.k) (P.J t))) 120&&bM (Bl.j (.e vs (qq P.k) (P.J t))) 100000)=ax from abe (z:=P.z) g f e x.l y.l a.l b.l d.l (c x.f (by decide)) (c y.f (by decide)) a.f b.f (c d.f (by decide)) (c x.j (by decide)) (c y.j (by decide)) a.j b.j (c d.j (by decide)) i) af
theorem Pr.run (h:P.F):∃code,rj P.bl=.e code/\(∃d,code=d++[.e])/\∀f:aB,f<17->A2 code ⟨[0,0,0],0,0,[],f⟩ (HY P.N f (lS (P.o1++(P.o2++(P.Y++P.W.d ah))))):=by
 have s:=AJ P.z P.k (P.J P.tl);have b:AG [mS (P.z+1) P.k] (P.J P.tl)=ax:=bK (Pr.g1 h).i (bK (Pr.g2 h).i (bK (Pr.gA h).i (bK (Pr.gB h).i (bK (Pr.gD h).i (by cases P.k<;>rfl)))));rw [b] at s;obtain ⟨code,a⟩:=s;refine l4 code ?_ (Ru a) (λf c=>MI h a f c);show rj (.e _ (qq P.k) (P.J P.tl))=_;refine aA (Pr.H8 h af (aa af) (aa af) (aa af)) ?_;exact a
end
theorem RD (h:cF o Gv=ax):cF o wW=ax:=NL (P:=λo=>cF o wW=ax) af af af af af h
theorem Rn (h:cF o (oy.d .c)=ax):cF o wW=ax:=Nw (P:=λo=>cF o wW=ax) af af af af af af h
theorem Ar:∀e:Ex,CG e=ax->e.i=ax/\Oe e=ax:=by
 intro e
 induction e with
 |h n=>exact λh=>⟨af,bF (cH (aX h) (aa af))⟩
 |g x=>exact λz=>⟨af,af⟩
 |k x e f=>exact λh=>f (ae.g h).2
 |m e f=>exact λh=>f h
 |l e f=>exact λh=>aR h
 |c o a b d c=>
  intro h;have h:=ae.g h;have g:=ae.g h.2;exact ⟨bK (bK (RD h.1) (d g.1).1) (c g.2).1,bK (d g.1).2 (c g.2).2⟩
theorem ZG:∀e:Ex,VF e=ax->e.i=ax/\Oe e=ax
 |.l e,h=>Ar e h
 |.c o a b,h=>by
  have h:=ae.g h;have c:=ae.g h.2;exact ⟨bK (bK (Rn h.1) (Ar a c.1).1) (Ar b c.2).1,bK (Ar a c.1).2 (Ar b c.2).2⟩
theorem SF (w:e.i=ax/\Oe e=ax)(h:szE e=ax):Ax e=ax:=by
 have h:=ae.g (ae.g h).2;exact bK w.1 (bK w.2 (bK (ml (ab (aa h.1) (aa af))) h.2))
theorem Gk (h:zk e=ax):Ax e=ax:=SF (Ar e (zk.a h)) (ae.g h).2
theorem QJ (h:Lz e=ax):Ax e=ax:=SF (ZG e (Lz.c h)) (ae.g h).2
theorem abk:∀{as:ao Ex},as.oG zk=ax->as.oG Ax=ax:=by
 intro b
 induction b with
 |nil=>
  intro _;exact af
 |cons _ _ a=>
  intro h;exact bK (Gk (ae.g h).1) (a (ae.g h).2)
theorem L9:∀s:St,(Hb s=ax->L4 s=ax)/\(VE s=ax->VY s=ax):=by
 intro s
 induction s with
 |iS=>exact ⟨λz=>af,λh=>aR h⟩
 |U x e=>exact ⟨λh=>Gk (ae.g h).2,λh=>aR h⟩
 |iR x i e=>
  refine ⟨λh=>?_,λh=>aR h⟩;have h:=ae.g (ae.g h).2;exact bK (Gk h.1) (Gk h.2)
 |ip x n=>
  refine ⟨λh=>?_,λh=>aR h⟩;have h:=ae.g (ae.g h).2;exact bK h.1 (abk h.2)
 |uF c a d=>exact ⟨λh=>bK (QJ (ae.g h).1) (d.1 (ae.g h).2),λh=>aR h⟩
 |uE c a b d l=>
  refine ⟨λh=>?_,λh=>aR h⟩;have h:=ae.g h;have g:=ae.g (ae.g h.2).2;exact bK (QJ h.1) (bK (d.1 g.1) (l.1 g.2))
 |wt c a d=>exact ⟨λh=>bK (QJ (ae.g h).1) (d.1 (ae.g h).2),λh=>aR h⟩
 |wu s c f=>exact ⟨λh=>bK (f.2 (ae.g h).1) (QJ (ae.g h).2),λh=>aR h⟩
 |ti x a b m s f=>
  refine ⟨λh=>?_,λh=>aR h⟩;have h:=ae.g (ae.g h).2;have g:=ae.g h.2;exact bK (Gk h.1) (bK (Gk g.1) (f.1 g.2))
 |vM s f=>exact ⟨λh=>f.2 h,λh=>aR h⟩
 |R e=>exact ⟨λh=>Gk (ae.g h).1,λh=>aR h⟩
 |nh s f=>exact ⟨λh=>aR h,λh=>f.1 h⟩
 |E s r j k=>exact ⟨λh=>aR h,λh=>bK (j.1 (ae.g h).1) (k.2 (ae.g h).2)⟩
theorem aao:(Yj 100 (qq 0)&&(Yj 100 (qq 1)&&(bM (w1 (qq 0)) 10&&bM (w1 (qq 1)) 10)))=ax:=by decide +kernel
section
variable {P:Pr}
theorem Pr.sh (h:P.F)(e:VY t=ax)(g:jx t<=6)(d:vs.a<=10)(f:vs.oG ZL=ax):shB (.e vs (qq P.k) (P.J t))=ax/\w1 (.e vs (qq P.k) (P.J t))<=12:=by
 have p:=ae.g aao;have c:=ae.g p.2;have b:=ae.g c.2;have q:Yj 100 (qq P.k)=ax/\w1 (qq P.k)<=10:=by
  match P.k with
  |0=>exact ⟨p.1,aa b.1⟩
  |k+1=>exact ⟨c.1,aa b.2⟩
 refine ⟨bK (ml (ab d (aa af))) (bK f (bK q.1 (bK ((L9 _).1 (Pr.g1 h).e) (bK ((L9 _).1 (Pr.g2 h).e) (bK ((L9 _).1 (Pr.gA h).e) (bK ((L9 _).1 (Pr.gB h).e) (bK ((L9 _).1 (Pr.gD h).e) e))))))),?_⟩;have a:∀{m n k:aB},m<=n->n<=k->m<=k:=ab;refine az (bj.i ⟨b7 q.2,?_⟩);exact az (bj.i ⟨a ((Pr.g1 h).h) (aa af),az (bj.i ⟨a ((Pr.g2 h).h) (aa af),az (bj.i ⟨a ((Pr.gA h).h) (aa af),az (bj.i ⟨a ((Pr.gB h).h) (aa af),az (bj.i ⟨a ((Pr.gD h).h) (aa af),g⟩)⟩)⟩)⟩)⟩)
end
section
variable {T:dt}{D:aB->aJ cO}{P:Pr}
theorem LG:oB (λi=>(Od 0 (zU i) 0).wf ax&&(bM (Od 0 (zU i) 0).fu 20&&(bM (Od 0 (zU i) 0).sz 100&&(bM (HD 0++JQ i).a 10&&(L4 (zU i)&&(bM (jx (Od 0 (zU i) 0)) 6&&(JQ i).oG ZL)))))) 13=ax:=by decide +kernel
theorem Pr.RJ (K:Shw T D)(h:P.F)(d:i<13){n:aB}(j:80<=n)(q:∀a,jL σ a->Q (.c (P.Z i)) a):bp T D n 32 [kB (t9,P.RM i)] σ Q X:=by
 refine gl ?_;intro k;obtain ⟨_,t⟩:=ae.g (eZ LG d);obtain ⟨_,t⟩:=ae.g t;obtain ⟨_,t⟩:=ae.g t;obtain ⟨g,t⟩:=ae.g t;obtain ⟨f,t⟩:=ae.g t;have c:=ae.g t;have s:=Pr.sh h (t:=Od P.z (zU i) P.E) (vs:=HD (P.z+1)++JQ i) (by
  have b:r5 (.h P.E)<=20:=uy h.Of;have z:Ax (.k nA (.h P.z))=ax:=by
   match P.z,h.z with
   |0,_=>rfl
   |1,_=>rfl
   |2,_=>rfl
  exact bK z (bK f (show Ax (.c hK (.g nY) (.h P.E))=ax from bK af (bK (bF (cH h.Of (aa af))) (bK (ml (ab (az (ar (ar b 4) 1)) (aa af))) af))))) (aa c.1) (aa g) (by
  show (ax&&(ax&&(bg (P.z+1<2 ^ 100)&&(JQ i).oG ZL)))=ax;refine aA (bF (aQ (show P.z+1<=3 from h.z) (aa af))) (aA c.2 ?_);rfl)
 have l:(raw (P.RM i)).a<=50000:=by
  refine aA (Pr.abt h d) ?_;exact ab (Pr.adD h d) (aa af)
 refine Mine.Internal.P.PY K (x:=t9) (b:=P.RM i) (n:=n) (σ:=σ) (Q:=Q) (X:=X) s.1 (ab (ar (bP 2 s.2) 41) (ab (aa af) j)) l λa e=>?_;refine aA (show ct [32,59] [59] ([112,114,111,103,114,97,109,32]++t9++[59,32]++NF (P.RM i)++[46])=P.Z i from (Pr.XH h d)) ?_;exact q a e
end
structure Law1 (T:dt)(D:aB->aJ cO):Prop extends Shw T D where
 t:D 34=ah ab2
 u:D 35=ah Uy
 v:D 36=ah ab1
 w:D 37=ah Dk
 x:D 38=ah abW
 y:D 39=ah Bs
 z:D 40=ah OS
 A:T.b 3=ah (.f [.c hK,.c hU,.c yC,.c DG,.c DF])
 k:T.b 4=ah (.f [.c [61],.c [60,62],.c [60],.c [60,61],.c [62],.c [62,61]])
noncomputable def oV:aJ aU->AV
 |some v=>.d v
 |aq=>.h
noncomputable def wq (e:Ee):AV:=.f [.d e.l,.d e.i,.d e.r,.d e.n,.d e.s,.d e.t,.d (match e.d with
 |false=>0
 |true=>1)]
section
variable {T:dt}{D:aB->aJ cO}{n:aB}{σ:a8}{Q:QV}{X:QX}
theorem Ml (l:ao AV)(p:aB)(v:AV)(h:p<l.a):Mine.Internal.xh l 0 p++[v]++Mine.Internal.xh l (p+1) l.a=l.w p v:=by
 unfold Mine.Internal.xh;refine aA jA ?_;rw [xd,List.set_eq_take_append_cons_drop,c7 h,ag];rfl
theorem vt (K:Law1 T D){l:ao AV}(c:σ[r]?=ah (.a l))(e:p<l.a)(d:l.a<=1000)(q:∀o a,jL σ a->a[o]?=ah (.a (l.w p v))->Q (.e o) a):bp T D (n+1) 34 [.e r,.d p,v] σ Q X:=by
 refine bU K.t af ?_;intro i h g f;have b:(Mine.Internal.xh l 0 p).a<=1000:=by
  unfold Mine.Internal.xh;refine aA jA (aA pZ ?_);exact ab (gh _ _) d
 refine f7 (f7 ?_);refine bk c (bk (cI bO) (bk bO ⟨ab (aj b 1) (aa af),?_⟩));refine bk (cI (cI (cI c))) (bk (cI bO) (bk bO ⟨?_,?_⟩))
 ·refine aA ai ?_;refine ab (aL (aj b 1) ?_) (by decide:1000+1+1000<=gL);unfold Mine.Internal.xh;refine aA fS (aA pZ ?_);exact ab (fO _ _) (ab (gh _ _) d)
 ·refine q _ _ (((((jL.ig σ).eP).eP).eP).eP).eP ?_;refine aA bO ?_;show ah (MO.a (Mine.Internal.xh l 0 p++[v]++Mine.Internal.xh l (p+1) l.a))=_;exact aA (Ml l p v e) af
theorem Hk {j k:aB}(K:Law1 T D)(d:e 1=ah (.f l))(c:lZ (j:aU) l.a=ah j)(a:l[j]?=ah (.d k))(b:k<5)(q:P (.c (iA k)) σ):ey T C (.l (.g 3) (.l (.v 1) (.d j))) e σ P X:=by
 refine b8 K.A (aH d (b8 c (b8 a ?_)));revert a q;refine lt5 b ?_ ?_ ?_ ?_ ?_
 ·intro a q;exact q
 ·intro a q;exact q
 ·intro a q;exact q
 ·intro a q;exact q
 ·intro a q;exact q
set_option tactic.hygienic true in
theorem Q5 (h:bd m a)(d:1<=m):bd (m+1) (a.lD b):=by
 refine aA (Int.fdiv_eq_tdiv (a:=a) (b:=b)) ?_;refine (ub a b▸Gs h).Cu ?_;have c:bd m (1:aU):=(AQ af:bd 1 1).le d;have zero:bd m (0:aU):=(AQ af:bd 1 0).le d;split
 ·exact zero
 ·split
  ·split
   ·exact zero
   ·exact c
  ·split
   ·cases b with
    |ofNat b=>
     cases b with
     |zero=>exact zero
     |succ b=>exact c
    |negSucc b=>exact (c.neg:bd m (-1))
   ·rename_i e
    cases b with
    |ofNat b=>exact bZ (bq b) e
    |negSucc b=>exact zero
noncomputable def dvT:bC->Tx
 |true=>DG
 |false=>DF
noncomputable def dvV (c:bC)(a b:aU):aU:=match c with
 |true=>Ht a b
 |false=>Yk a b
theorem HA (K:Law1 T D)(B:s<5)(t:∀v,l=ah v->bd m v)(p:∀v,r=ah v->bd m v)(y:1<=m)(w:m<=800)(q:Q (oV (l.J λa=>r.J λb=>JR s a b)) σ):bp T D (n+1) 35 [.c (iA s),oV l,oV r] σ Q X:=by
 refine bU K.u af ?_;cases l with
 |none=>exact mU q
 |some a=>
  refine mq ?_;intro J;refine sV ?_;cases r with
  |none=>exact mU q
  |some b=>
   refine sV ?_;have z:=t a af;have x:=p b af;have q:Q (oV (JR s a b)) σ:=q;have c:∀(c:bC),(∀{Q:QV},Q (oV (match bg (b=0) with
     |true=>aq
     |false=>ah (dvV c a b))) σ->di T (bp T D n) (dj 4 Uy.a) (λi=>[.c (dvT c),.d a,.d b][i]?) σ (ux Q) (λ_ f=>X f)):=by
    intro c Q q;refine fE (b:=bg (b=0)) (λg=>?_) λg=>?_
    ·rw [g] at q;exact q
    rw [g] at q;have g:=cV g;have o:∀{k:aB} {v:aU},bd k v->k<=1000->v.o<2 ^ 1000:=λh C=>h.le C;have u:m<=1000:=ab w (by decide);refine cE (dX g (o x u) ?_);have d:=MP (a:=a) g;have j:∀(v:aU) (e:Ev),v=Ht a b->e 0=ah (.c (dvT c))->e 1=ah (.d a)->e 2=ah (.d b)->e 3=ah (.d v)->di T (bp T D n) (dj 7 Uy.a) e σ (ux Q) (λ_ f=>X f):=by
     rintro v e rfl I H G A;refine aH I ?_;cases c with
     |true=>exact aH A q
     |false=>exact aH H (aH A (aH G (dX (o (Gs z) u) (o x u) q)))
    unfold WB at d;refine gd ?_;intro F;refine fE (b:=bg (a.lD b<0)) (λt=>?_) λt=>?_
    ·refine dX (o (Q5 z y) (ab (az w) (aa af))) (o x u) ?_;have d:=t▸d;refine sY (b:=bg (a.lD b*b=a)) (λp=>?_) λp=>?_
     ·rw [p] at d;exact j (a.lD b) (bu (λi=>[.c (dvT c),.d a,.d b][i]?) 3 (.d (a.lD b))) d af af af af
     ·rw [p] at d;exact j (a.lD b+1) (bu (bu (λi=>[.c (dvT c),.d a,.d b][i]?) 3 (.d (a.lD b))) 3 (.d (a.lD b+1))) d af af af af
    ·have d:=t▸d;refine gd ?_;intro F;exact j (a.lD b) (bu (λi=>[.c (dvT c),.d a,.d b][i]?) 3 (.d (a.lD b))) d af af af af
   revert q;refine lt5 B ?_ ?_ ?_ ?_ ?_
   ·intro q;exact q
   ·intro q;exact q
   ·intro q;exact dX (z.le (ab w (by decide))) (x.le (ab w (by decide))) q
   ·intro q;exact c ax q
   ·intro q;exact c aw q
end
noncomputable def CJ (k n:aB)(c:Cs):AV:=.f [(fJ k n).d,.c (d7 1 (fJ k n)),.d (d8 k n c)]
def CO (σ:a8)(r:aB)(c:Cs):Prop:=σ[r]?=ah (.a ((cl c).d .d))
theorem CO.GH (h:CO σ r c)(x:jL σ a):CO a r c:=x.wB h
theorem XA:∀n:aB,n<4->d7 1 (fJ 4 n)=[45,40,120,32,42,32]++cU n++[41]:=by decide +kernel
theorem SY:∀n:aB,n<4->(cU (n:aU)).a=1:=by decide +kernel
section
variable {T:dt}{D:aB->aJ cO}{n:aB}{σ:a8}{Q:QV}{X:QX}{c:Cs}{r:aB}
theorem qd (h:CO σ r c){i:aB}(a:(cl c)[i]?=ah v)(q:P (.d v)):qI (.e r) (.d i) σ P:=by
 refine bk h (b8 (jb (by rw [ay];exact ((a7.g a).1))) (b8 ?_ q));exact cS▸a▸af
theorem lH (K:Law1 T D){k m:aB}(j:k<6)(d:m<4)(b:CO σ r c)(e:0<c.c.a)(l:bd 900 c.x)(q:Q (CJ k m c) σ):bp T D (n+1) 36 [.d k,.d m,.e r] σ Q X:=by
 refine bU K.v af ?_;intro v u t s;have g:((m:aB):aU).o<2 ^ 100:=cH d (aa af);have f:(cl c)[0]?=ah c.x:=af;have p:(cl c)[2]?=ah (c.c.uI 0):=by
  show c.c[0]?=_;cases o:c.c with
  |nil=>have e:=o▸e;cases e
  |cons a w=>rfl
 have h:=SY m d;refine ⟨g,?_⟩;refine qd (i:=0) b f (qd (i:=0) b f ?_);refine qd (i:=2) b p ⟨g,?_⟩;refine ⟨by refine aA h ?_;decide,?_⟩;refine ⟨by refine aA ai (aA h ?_);decide,?_⟩;refine qd (i:=0) b f (dX (l.le (aa af)) (cH d (aa af)) ?_);refine qd (i:=1) b af (b8 (jb (n:=6) j) ?_);revert q;refine lt6 j ?_ ?_ ?_ ?_ ?_ ?_
 ·intro q;exact q
 ·intro q;exact q
 ·intro q;exact q
 ·intro q;exact q
 ·intro q;have q:Q (.f [(fJ 4 m).d,.c (d7 1 (fJ 4 m)),.d (d8 4 m c)]) σ:=q;have q:=XA m d▸q;exact q
 ·intro q;exact q
end
theorem AR (k n l:aB):d7 l (fJ k n)=d7 1 (fJ k n):=by
 refine nt5 k ?_ ?_ ?_ ?_ ?_ λz=>?_
 ·rfl
 ·rfl
 ·rfl
 ·rfl
 ·rfl
 ·rfl
theorem Qm:∀s:aB,s<5->∀t:aB,t<5->cL (iB (iA s)) (iB (iA t))=(bg ((s:aU)<2)&&bg ((t:aU)>1))/\cL (iB (iA s)) (iB (iA t)+1)=(bg ((s:aU)<2)||decide ((t:aU)>1)):=by decide +kernel
theorem xw (o:aB)(x y:Ex)(a:aB):d7 a (.c (iA o) x y)=rY (cL (iB (iA o)) a) (rF (d7 (iB (iA o)) x) (iA o) (d7 (iB (iA o)+1) y)):=by
 show (match cF (iA o) (oy.d .c) with
  |true=>rF (d7 1 x) (iA o) (d7 1 y)
  |false=>rY (cL (iB (iA o)) a) (rF (d7 (iB (iA o)) x) (iA o) (d7 (iB (iA o)+1) y)))=_
 exact aA (vK (yK o).1).2 af
theorem lv1 (o:aB):cL (iB (iA o)) 1=aw:=match o with
 |0=>af
 |1=>af
 |2=>af
 |3=>af
 |_+4=>af
theorem Rd (b:e.s<5)(a:e.t<5):d7 1 (z3 e)=(match e.d with
  |false=>rF (rY (bg ((e.s:aU)<2)&&bg ((e.t:aU)>1)) (rF (d7 1 (fJ e.l e.n)) (iA e.s) (d7 1 (fJ e.i e.n)))) (iA e.t) (d7 1 (fJ e.r e.n))
  |true=>rF (d7 1 (fJ e.l e.n)) (iA e.t) (rY (bg ((e.s:aU)<2)||decide ((e.t:aU)>1)) (rF (d7 1 (fJ e.i e.n)) (iA e.s) (d7 1 (fJ e.r e.n))))):=by
 have p:=Qm e.s b e.t a;unfold z3;cases e.d with
 |false=>
  show d7 1 (.c (iA e.t) (.c (iA e.s) (fJ e.l e.n) (fJ e.i e.n)) (fJ e.r e.n))=_;rw [xw,lv1,xw,p.1,AR e.l e.n (iB (iA e.s)),AR e.i e.n (iB (iA e.s)+1),AR e.r e.n (iB (iA e.t)+1)];rfl
 |true=>
  show d7 1 (.c (iA e.t) (fJ e.l e.n) (.c (iA e.s) (fJ e.i e.n) (fJ e.r e.n)))=_;rw [xw,lv1,xw,p.2,AR e.l e.n (iB (iA e.t)),AR e.i e.n (iB (iA e.s)),AR e.r e.n (iB (iA e.s)+1)];rfl
structure EA (e:Ee):Prop extends Eo' e where
 s:e.s<5
 t:e.t<5
section
variable {T:dt}{D:aB->aJ cO}{C:fk}{σ:a8}{X:QX}
theorem Qv (i:e k=ah (.c o))(g:a.a<=1000)(f:o.a<=10)(j:b.a<=1000)(m:∀{P:QV},P (.c a) σ->ey T C A e σ P X)(l:∀{P:QV},P (.c b) σ->ey T C B e σ P X)(q:P (.c (rF a o b)) σ):ey T C (.n .a (.n .a (.n .a (.n .a A (.h [32])) (.v k)) (.h [32])) B) e σ P X:=by
 have d:(a++[32]).a<=1001:=by refine aA ai ?_;exact aj g 1
 have c:(a++[32]++o).a<=1011:=by refine aA ai ?_;exact aL d f
 have h:(a++[32]++o++[32]).a<=1012:=by refine aA ai ?_;exact aj c 1
 refine f7 (f7 (f7 (f7 (m ?_))));refine ⟨ab (aj g 1) (aa af),aH i (dX (ab (aL d f) (aa af)) (ab (aj c 1) (aa af)) ?_)⟩;exact l ⟨ab (aL h j) (aa af),q⟩
theorem eT {i j:aB}(h:e i=ah (.f l))(b:lZ (j:aU) l.a=ah j)(a:l[j]?=ah v)(q:P v σ):ey T C (.l (.v i) (.d j)) e σ P X:=aH h (b8 b (b8 a q))
end
theorem ly (b:k<6)(a:n<4):(d7 1 (fJ k n)).a<=10:=nN (lu (z:=0) (k:=0) b a).2.1 1
theorem Hx (h:t.a<=m):(rY b t).a<=m+2:=by
 cases b with
 |false=>exact ab h (ak _ _)
 |true=>
  show ([40]++t++[41]).a<=m+2;refine aA ai (aA ai ?_);exact ab (aj (ar h 1) 1) (aV (aA (cv 1 m) af))
section
variable {T:dt}{D:aB->aJ cO}{n:aB}{σ:a8}{Q:QV}{X:QX}{c:Cs}{r:aB}{e:Ee}
theorem Cb:i>((m+2:aB):aU)-3↔¬ i<(m:aU):=by
 refine aA (show ((m+2:aB):aU)-3=(m:aU)-1 from wN m 2 3) ?_;exact Int.sub_one_lt_iff.b dQ.h
theorem ac5 (K:Law1 T D)(h:CO σ r c)(j:c.c.a<=100)(f:0<=i)(g:i<(c.c.a:aU))(q:∀o a,jL σ a->CO a o ⟨c.x,c.y,c.c.w i.p v⟩->Q (.e o) a):bp T D (n+1) 34 [.e r,.d (i+2),.d v] σ Q X:=by
 have b:((cl c).d AV.d).a=c.c.a+2:=by rw [ay];rfl
 obtain ⟨m,rfl⟩:=dn f;refine vt K (p:=m+2) h (by refine aA b ?_;exact jG (cM.g g) 2) (by refine aA b ?_;exact ab (aj j 2) (aa af)) λo a d e=>q o a d ?_;show a[o]?=ah (.a (AV.d c.x::AV.d c.y::(c.c.w m v).d AV.d));refine aA e ?_;rw [← pN];rfl
def DoQ (f:aB)(e:Ee)(c:Cs)(σ:a8)(Q:QV):Prop:=∀a d b,jL σ a->CO a d (ow f e c)->a[b]?=ah (.a ((sZ f e c).d oV))->Q (.f [(ka f e).K,.c (fq (ka f e)),.e d,.e b]) a
theorem Ra (K:Law1 T D)(hf:f<4)(E:EA e)(hc:CO σ r c)(h0:0<c.c.a)(h9:c.c.a<=100)(hx:bd 900 c.x)(e0:ev 0=ah (.d f))(e1:ev 1=ah (wq e))(e2:ev 2=ah (.e r))(e4:ev 4=ah (CJ e.i e.n c))(e9:ev 9=ah (z3 e).d)(e10:ev 10=ah (.c (d7 1 (z3 e))))(e11:ev 11=ah (oV (z0 e c)))(q:DoQ f e c σ Q):di T (bp T D (n+1)) KA ev σ (ux Q) (λ_ σ'=>X σ'):=by
 have dl:(d7 1 (z3 e)).a<=50:=nN (aa4 (z:=0) (k:=0) E.toEo').2.1 1;have cl1:((cl c).d AV.d).a=c.c.a+2:=by rw [ay];rfl
 revert e0 q;refine YQ hf ?_ ?_ ?_ ?_
 ·intro e0 q;refine aH e0 (aH e2 ?_);exact q _ r _ (jL.ig σ).eP (hc.GH (jL.ig σ).eP) bO
 ·intro e0 q;refine aH e0 (aH e0 (aH e9 (aH e10 ?_)));refine dX (ab (ar dl 6) (aa af)) ?_ ?_
  ·refine aA ai ?_;exact ab (aj (ar dl 6) 1) (aa af)
  refine aH e2 (aH e11 ?_);exact q _ r _ (jL.ig σ).eP (hc.GH (jL.ig σ).eP) bO
 ·intro e0 q;refine aH e0 (aH e0 (aH e0 (aH e9 ?_)));have q:∀σ' rc ro,jL σ σ'->CO σ' rc (match z0 e c with
   |some v=>⟨c.x,v,c.c⟩
   |aq=>c)->σ'[ro]?=ah (.a ((match z0 e c with
   |some _=>[]
   |aq=>[aq]:ao (aJ aU)).d oV))->Q (.f [(ka 2 e).K,.c (fq (ka 2 e)),.e rc,.e ro]) σ':=q
  revert q e11;cases z0 e c with
  |none=>
   intro e11 q;refine gd ?_;intro e9;refine aH (e:=bu ev 9 _) (i:=11) e11 (mU (aH (e:=bu ev 9 _) (i:=10) e10 ?_));refine ⟨ab (ar dl 5) (by decide),aH (e:=bu ev 9 _) (i:=2) e2 ?_⟩;exact q _ r _ (jL.ig σ).eP (hc.GH (jL.ig σ).eP) bO
  |some v=>
   intro e11 q;refine aH (e:=bu ev 9 _) (i:=11) e11 (sV (aH (e:=bu ev 9 _) (i:=10) e10 ?_));refine ⟨ab (ar dl 5) (by decide),aH (e:=bu ev 9 _) (i:=2) e2 (aH (e:=bu ev 9 _) (i:=11) e11 ?_)⟩;refine ⟨K.a 34 af af,vt K (p:=1) hc (by refine aA cl1 ?_;exact bL (eY _)) (aA cl1 (ab (aj h9 2) (aa af))) λo σ' x' ho=>?_⟩;exact q _ o _ x'.eP (CO.GH (c:=⟨c.x,v,c.c⟩) ho (jL.ig σ').eP) bO
 ·intro e0 q;have il:=ly (bb E.i) E.n;refine aH e0 (aH e0 (aH e0 ?_));refine cE (aH e1 (aH e1 (aH e2 ⟨K.a 36 af af,?_⟩)));refine lH K (k:=e.l+1) (bL E.l) E.n hc h0 hx (cE (aH (e:=bu ev 12 _) (i:=4) e4 ?_));refine gd ?_;intro e9;refine cE (aH (e:=bu (bu ev 12 _) 9 _) (i:=4) e4 ?_);refine dX (ab (ar il 2) (aa af)) ?_ ?_
  ·refine aA ai ?_;exact ab (aj (ar il 2) 5) (aa af)
  refine ⟨?_,?_⟩
  ·refine aA ai (aA ai ?_);exact ab (aL (aj (ar il 2) 5) (ly (bL E.l) E.n)) (aa af)
  have tx:([97,91]++d7 1 (fJ e.i e.n)++[93,32,58,61,32]++d7 1 (fJ (e.l+1) e.n))=fq (ka 3 e):=by
   show _=nA++[91]++d7 1 (fJ e.i e.n)++[93]++sR++d7 1 (fJ (e.l+1) e.n);rw [ag (bs:=[93])];rfl
  refine aA tx ?_;have q:∀σ' rc ro,jL σ σ'->CO σ' rc (match sX (d8 e.i e.n c) c with
   |true=>⟨c.x,c.y,c.c.w (d8 e.i e.n c).p (d8 (e.l+1) e.n c)⟩
   |false=>c)->σ'[ro]?=ah (.a ((match sX (d8 e.i e.n c) c with
   |true=>[]
   |false=>[aq]:ao (aJ aU)).d oV))->Q (.f [(ka 3 e).K,.c (fq (ka 3 e)),.e rc,.e ro]) σ':=q
  have bad:sX (d8 e.i e.n c) c=aw->∀{ev':Ev},ev' 9=ah (ka 3 e).K->ev' 10=ah (.c (fq (ka 3 e)))->ev' 2=ah (.e r)->di T (bp T D (n+1)) (.a (.CF (.p (.a (.v 9) (.a (.v 10) (.a (.v 2) (.a (.z (.a .y .b)) .b)))))) .b) ev' σ (ux Q) (λ_ σ'=>X σ'):=λhi {ev'} a9 a10 a2=>by
   have q:=hi▸q;exact aH a9 (aH a10 (aH a2 (q _ r _ (jL.ig σ).eP (hc.GH (jL.ig σ).eP) bO)))
  refine gd ?_;intro e9;refine aH (e:=bu (bu (bu ev 12 _) 9 _) 10 _) (i:=4) e4 (fE (b:=bg (d8 e.i e.n c<0)) (λhn=>?_) λhn=>?_)
  ·exact bad (bR λq=>fP.i (aX hn) q.1) (ev':=bu (bu (bu ev 12 _) 9 _) 10 _) af af e2
  refine aH (e:=bu (bu (bu ev 12 _) 9 _) 10 _) (i:=4) e4 (aH (e:=bu (bu (bu ev 12 _) 9 _) 10 _) (i:=2) e2 (bk hc ?_));refine aA cl1 ?_;refine fE (b:=bg (d8 e.i e.n c>((c.c.a+2:aB):aU)-3)) (λhg=>?_) λhg=>?_
  ·exact bad (bR λq=>(Cb.g (aX hg)) q.2) (ev':=bu (bu (bu ev 12 _) 9 _) 10 _) af af e2
  have hn:=dQ.g (cV hn);have hg:d8 e.i e.n c<(c.c.a:aU):=Decidable.not_not.g λz=>cV hg (Cb.i z);have q:=(show sX (d8 e.i e.n c) c=ax from bF ⟨hn,hg⟩)▸q;refine aH (e:=bu (bu (bu ev 12 _) 9 _) 10 _) (i:=2) e2 (aH (e:=bu (bu (bu ev 12 _) 9 _) 10 _) (i:=4) e4 ?_);refine ⟨K.a 34 af af,?_⟩;exact ac5 K hc h9 hn hg λo σ' x' ho=>q _ o _ x'.eP (ho.GH (jL.ig σ').eP) bO
end
section
variable {T:dt}{D:aB->aJ cO}{n:aB}{σ:a8}{Q:QV}{X:QX}{c:Cs}{r:aB}{e:Ee}
theorem vp (k:aB):(iA k).a<=10:=ab (yK k).2 (aa af)
theorem MH (e:a.a<=x)(c:o.a<=y)(d:b.a<=z):(rF a o b).a<=x+1+y+1+z:=by
 rw [B4];exact aL (aj (aL (aj e 1) c) 1) d
theorem adB (g:ev 1=ah (wq e)){r:Ss}(f:e.d=aw->di T C a ev σ (Cr T C s r QQ XX) XX)(d:e.d=ax->di T C b ev σ (Cr T C s r QQ XX) XX):di T C (.a (.vj (.q .a (.l (.v 1) (.d 6)) (.d 0)) a b) (.a s r)) ev σ QQ XX:=by
 refine aH g ?_;unfold wq;cases c:e.d with
 |false=>exact f c
 |true=>exact d c
theorem LD (h:ev i=ah v):bu ev i v=ev:=by
 funext j;show kr (aM j i) (ah v) (ev j)=ev j;cases q:aM j i with
 |false=>rfl
 |true=>exact aD q▸h▸af
theorem BJ:bu (bu ev i v) i w=bu ev i w:=by
 funext j;show kr (aM j i) _ (kr (aM j i) _ _)=kr (aM j i) _ _;cases aM j i<;>rfl
theorem Mt (e:∀{P:QV},P (.g b) σ->ey T C a ev σ P (XX ev))(d:ev 8=ah (.c p))(c:p.a<=100){r:Ss}(q:di T C (.a s r) (bu ev 8 (.c (rY b p))) σ QQ XX):di T C (.a (.vj a (.a (.rA 8 (.n .a (.n .a (.h [40]) (.v 8)) (.h [41]))) .b) .b) (.a s r)) ev σ QQ XX:=by
 refine e ?_;cases b with
 |true=>
  refine aH d (dX (ab (ar c 1) (aa af)) ?_ q);refine aA ai ?_;exact ab (aj (ar c 1) 1) (aa af)
 |false=>
  have q:di T C (.a s r) (bu ev 8 (.c p)) σ QQ XX:=q;have q:=LD d▸q;exact q
theorem abn (a:ev 1=ah (wq e))(q:P (.g (bg ((e.s:aU)<2)&&bg ((e.t:aU)>1))) σ):ey T C (.B (.a (.q .c (.l (.v 1) (.d 4)) (.d 2)) (.a (.q .b (.l (.v 1) (.d 5)) (.d 1)) .b))) ev σ P X:=by
 refine aH a (fE (b:=bg ((e.s:aU)<2)) (λh=>?_) λh=>?_)
 ·rw [h] at q;exact aH a q
 ·rw [h] at q;exact q
theorem abm (a:ev 1=ah (wq e))(q:P (.g (bg ((e.s:aU)<2)||decide ((e.t:aU)>1))) σ):ey T C (.I (.a (.q .c (.l (.v 1) (.d 4)) (.d 2)) (.a (.q .b (.l (.v 1) (.d 5)) (.d 1)) .b))) ev σ P X:=by
 refine aH a (fE (b:=bg ((e.s:aU)<2)) (λh=>?_) λh=>?_)
 ·rw [h] at q;exact q
 ·rw [h] at q;exact aH a q
theorem aad (K:Law1 T D)(E:EA e)(B:Bd 200 200 200 c)(s:p.a<=100)(o:ev 3=ah (CJ e.l e.n c))(m:ev 4=ah (CJ e.i e.n c))(h:ev 5=ah (CJ e.r e.n c))(j:ev 6=ah (.c (iA e.s)))(g:ev 7=ah (.c (iA e.t)))(u:ev 8=ah (.c p))
  (q:QQ .a (bu (bu (bu ev 9 (Ex.d (.c (iA e.t) (.c (iA e.s) (fJ e.l e.n) (fJ e.i e.n)) (fJ e.r e.n)))) 10 (.c (rF p (iA e.t) (d7 1 (fJ e.r e.n))))) 11 (oV ((JR e.s (d8 e.l e.n c) (d8 e.i e.n c)).J λv=>JR e.t v (d8 e.r e.n c)))) σ):di T (bp T D (n+1)) (dj 2 Ux) ev σ QQ XX:=by
 have b:∀k,k<5->bd 202 (d8 k e.n c):=λk f=>qf B E.n (aa af) (aa af) k (.C f);have a:∀k,k<5->∀v,ah (d8 k e.n c)=ah v->bd 404 v:=λk f v d=>by injection d with d;subst d;exact (b k f).le (aa af)
 refine cE (aH g (aH j (aH o (aH m (aH h ?_)))));refine gd ?_;intro t;refine cE (Qv (k:=7) (e:=bu ev 9 _) g (ab s (aa af)) (vp _) (ab (ly (bb E.r) E.n) (aa af)) (λp=>aH (e:=bu ev 9 _) (i:=8) u p) (λp=>aH (e:=bu ev 9 _) (i:=5) h p) ?_);refine gd ?_;intro t;refine aH (e:=bu (bu ev 9 _) 10 _) (i:=7) g (aH (e:=bu (bu ev 9 _) 10 _) (i:=6) j (aH (e:=bu (bu ev 9 _) 10 _) (i:=3) o (aH (e:=bu (bu ev 9 _) 10 _) (i:=4) m ⟨K.a 35 af af,?_⟩)));refine HA K (l:=ah (d8 e.l e.n c)) (r:=ah (d8 e.i e.n c)) E.s (a _ E.l) (a _ E.i) (aa af) (aa af) (aH (e:=bu (bu ev 9 _) 10 _) (i:=5) h ⟨K.a 35 af af,?_⟩);exact HA K (r:=ah (d8 e.r e.n c)) E.t (we e.s (b _ E.l) (b _ E.i)) (a _ E.r) (aa af) (aa af) q
noncomputable def ady:Ss:=match yc with
 |.a (.vj _ _ b) _=>b
 |_=>.b
theorem aac (K:Law1 T D)(E:EA e)(B:Bd 200 200 200 c)(s:p.a<=100)(h:ev 3=ah (CJ e.l e.n c))(o:ev 4=ah (CJ e.i e.n c))(m:ev 5=ah (CJ e.r e.n c))(j:ev 6=ah (.c (iA e.s)))(g:ev 7=ah (.c (iA e.t)))(u:ev 8=ah (.c p))
  (q:QQ .a (bu (bu (bu ev 9 (Ex.d (.c (iA e.t) (fJ e.l e.n) (.c (iA e.s) (fJ e.i e.n) (fJ e.r e.n))))) 10 (.c (rF (d7 1 (fJ e.l e.n)) (iA e.t) p))) 11 (oV ((JR e.s (d8 e.i e.n c) (d8 e.r e.n c)).J λv=>JR e.t (d8 e.l e.n c) v))) σ):di T (bp T D (n+1)) (dj 2 ady) ev σ QQ XX:=by
 have b:∀k,k<5->bd 202 (d8 k e.n c):=λk f=>qf B E.n (aa af) (aa af) k (.C f);have a:∀k,k<5->∀v,ah (d8 k e.n c)=ah v->bd 404 v:=λk f v d=>by injection d with d;subst d;exact (b k f).le (aa af)
 refine cE (aH g (aH h (aH j (aH o (aH m ?_)))));refine gd ?_;intro t;refine cE (Qv (k:=7) (e:=bu ev 9 _) g (ab (ly (bb E.l) E.n) (aa af)) (vp _) (ab s (aa af)) (λp=>aH (e:=bu ev 9 _) (i:=3) h p) (λp=>aH (e:=bu ev 9 _) (i:=8) u p) ?_);refine gd ?_;intro t;refine aH (e:=bu (bu ev 9 _) 10 _) (i:=7) g (aH (e:=bu (bu ev 9 _) 10 _) (i:=3) h (aH (e:=bu (bu ev 9 _) 10 _) (i:=6) j (aH (e:=bu (bu ev 9 _) 10 _) (i:=4) o (aH (e:=bu (bu ev 9 _) 10 _) (i:=5) m ⟨K.a 35 af af,?_⟩))));refine HA K (l:=ah (d8 e.i e.n c)) (r:=ah (d8 e.r e.n c)) E.s (a _ E.i) (a _ E.r) (by decide) (by decide) ⟨K.a 35 af af,?_⟩;exact HA K (l:=ah (d8 e.l e.n c)) E.t (a _ E.l) (we e.s (b _ E.i) (b _ E.r)) (by decide) (by decide) q
theorem Rb (K:Law1 T D)(E:EA e)(B:Bd 200 200 200 c)(x:ev 1=ah (wq e))(w:ev 3=ah (CJ e.l e.n c))(r:ev 4=ah (CJ e.i e.n c))(v:ev 5=ah (CJ e.r e.n c))(o:ev 6=ah (.c (iA e.s)))(F:ev 7=ah (.c (iA e.t)))
  (q:∀ev',(∀i,i<8->ev' i=ev i)->ev' 9=ah (z3 e).d->ev' 10=ah (.c (d7 1 (z3 e)))->ev' 11=ah (oV (z0 e c))->di T (bp T D (n+1)) KA ev' σ QQ XX):di T (bp T D (n+1)) yc ev σ QQ XX:=by
 have C:=ly (bb E.l) E.n;have m:=ly (bb E.i) E.n;have A:=ly (bb E.r) E.n;have l:∀{t:Tx},t.a<=10->t.a<=1000:=λh=>ab h (aa af);have d:∀{z y g f:AV} {i:aB},i<8->bu (bu (bu (bu ev 8 z) 9 y) 10 g) 11 f i=ev i:=fun {z y g f i} h=>(dG i (b5 (cH h (aa af)))).b ((dG i (b5 (cH h (aa af)))).b ((dG i (b5 (cH h (by decide)))).b (dG i (b5 h))));have j:=Rd E.s E.t;unfold z3 z0 at q;unfold z3 at j;refine adB x (λu=>?_) λu=>?_
 ·rw [u] at q j;have k:(rF (d7 1 (fJ e.l e.n)) (iA e.s) (d7 1 (fJ e.i e.n))).a<=32:=MH C (vp _) m;refine cE (Qv (a:=d7 1 (fJ e.l e.n)) (b:=d7 1 (fJ e.i e.n)) o (l C) (vp _) (l m) (λp=>aH w p) (λp=>aH r p) ?_);refine Mt (ev:=bu ev 8 _) (λp=>abn (ev:=bu ev 8 _) x p) af (ab k (by decide)) ?_;refine aA BJ ?_;exact aad K E B (ev:=bu ev 8 _) (ab (Hx k) (by decide)) w r v o F af (q _ (λi s=>d s) af (aW (λt=>ah (AV.c t)) j.h) af)
 ·rw [u] at q j;have k:(rF (d7 1 (fJ e.i e.n)) (iA e.s) (d7 1 (fJ e.r e.n))).a<=32:=MH m (vp _) A;refine cE (Qv (a:=d7 1 (fJ e.i e.n)) (b:=d7 1 (fJ e.r e.n)) o (l m) (vp _) (l A) (λp=>aH r p) (λp=>aH v p) ?_);refine Mt (ev:=bu ev 8 _) (λp=>abm (ev:=bu ev 8 _) x p) af (ab k (by decide)) ?_;refine aA BJ ?_;exact aac K E B (ev:=bu ev 8 _) (ab (Hx k) (by decide)) w r v o F af (q _ (λi s=>d s) af (aW (λt=>ah (AV.c t)) j.h) af)
theorem ZU (h:ey T C b ev σ (λv a=>di T C yc (bu ev i v) a QQ XX) (XX ev)):di T C (.a (.rA i b) yc) ev σ QQ XX:=by
 unfold yc at h ⊢;exact h
theorem Np (K:Law1 T D)(o:f<4)(E:EA e)(b:CO σ r c)(d:0<c.c.a)(p:c.c.a<=100)(B:Bd 200 200 200 c)(q:DoQ f e c σ Q):bp T D (n+2) 37 [.d f,wq e,.e r] σ Q X:=by
 have a:bd 900 c.x:=B.x.le (aa af);refine bU K.w af ?_;intro w v u t;refine cE (eu ⟨K.a 36 af af,lH K (bb E.l) E.n b d a ?_⟩);refine cE (eu ⟨K.a 36 af af,lH K (bb E.i) E.n b d a ?_⟩);refine cE (eu ⟨K.a 36 af af,lH K (bb E.r) E.n b d a ?_⟩);refine cE (Hk K (j:=4) (l:=[.d e.l,.d e.i,.d e.r,.d e.n,.d e.s,.d e.t,_]) af af af E.s ?_);refine ZU (Hk K (j:=5) (l:=[.d e.l,.d e.i,.d e.r,.d e.n,.d e.s,.d e.t,_]) af af af E.t ?_);exact Rb K E B (ev:=bu (bu (bu (bu (bu (λi=>[AV.d f,wq e,.e r][i]?) 3 (CJ e.l e.n c)) 4 (CJ e.i e.n c)) 5 (CJ e.r e.n c)) 6 (.c (iA e.s))) 7 (.c (iA e.t))) af af af af af af λs k g m h=>(Ra K o E b d p a (k 0 (aa af)) (k 1 (aa af)) (k 2 (aa af)) (k 4 (aa af)) g m h q)
end
section
variable {T:dt}{D:aB->aJ cO}{n:aB}{σ:a8}{Q:QV}{X:QX}{c:Cs}{r:aB}{e:Ee}
theorem Xp (K:Law1 T D)(s:q<7)(E:EA e)(i:CO σ r c)(j:0<c.c.a)(g:bd 900 c.x)(p:Q (.f [(z4 q e).d,.c (d7 1 (z4 q e)),.g (w0 q e c)]) σ):bp T D (n+2) 38 [.d q,wq e,.e r] σ Q X:=by
 have f:=ly (bL E.l) E.n;have d:=ly (bb E.r) E.n;refine bU K.x af ?_;refine mq ?_;intro t;refine cE (eu ⟨K.a 36 af af,lH K (k:=e.l+1) (bL E.l) E.n i j g ?_⟩);refine cE (eu ⟨K.a 36 af af,lH K (bb E.r) E.n i j g ?_⟩);have b:(d7 1 (fJ (e.l+1) e.n)).a+1<=gL:=ab (aj f 1) (aa af);have a:∀o:Tx,o.a<=2->(d7 1 (fJ (e.l+1) e.n)++[32]).a+o.a<=gL/\(d7 1 (fJ (e.l+1) e.n)++[32]++o).a+1<=gL/\(d7 1 (fJ (e.l+1) e.n)++[32]++o++[32]).a+(d7 1 (fJ e.r e.n)).a<=gL:=λo h=>by
  have m:(d7 1 (fJ (e.l+1) e.n)++[32]).a<=10+1:=cu f (au 1);have l:(d7 1 (fJ (e.l+1) e.n)++[32]++o).a<=10+1+2:=cu m h;exact dX (ab (aL m h) (aa af)) (ab (aj l 1) (aa af)) (ab (aL (cu l (au 1)) d) (aa af))
 revert p;refine X5 s ?_ ?_ ?_ ?_ ?_ ?_ ?_
 ·intro p;exact b8 K.k (lP b ((a [61] (by decide)).1) ((a [61] (by decide)).2.1) ((a [61] (by decide)).2.2) p)
 ·intro p;exact b8 K.k (lP b ((a [60,62] (by decide)).1) ((a [60,62] (by decide)).2.1) ((a [60,62] (by decide)).2.2) p)
 ·intro p;exact b8 K.k (lP b ((a [60] (by decide)).1) ((a [60] (by decide)).2.1) ((a [60] (by decide)).2.2) p)
 ·intro p;exact b8 K.k (lP b ((a [60,61] (by decide)).1) ((a [60,61] (by decide)).2.1) ((a [60,61] (by decide)).2.2) p)
 ·intro p;exact b8 K.k (lP b ((a [62] (by decide)).1) ((a [62] (by decide)).2.1) ((a [62] (by decide)).2.2) p)
 ·intro p;exact b8 K.k (lP b ((a [62,61] (by decide)).1) ((a [62,61] (by decide)).2.1) ((a [62,61] (by decide)).2.2) p)
 ·intro p;refine gd ?_;intro u;refine lP (ab (ar d 4) (aa af)) ?_ (by decide) (by decide) p;refine aA ai ?_;exact ab (aj (ar d 4) 1) (aa af)
end
theorem vE (up:bC):∀(j:aB) (v:aU),fl up v j=(ew j).d λ(i:aB)=>Hl up v i:=by
 intro b
 induction b with
 |zero=>
  intro _;exact af
 |succ j a=>
  intro v;refine aA List.range_succ_eq_map ?_;rw [je,gR,t5];show v::fl up (gN up v) j=_;refine aA (a (gN up v)) ?_;exact aW (v::·) (jW λi z=>wc up v i)
theorem F0 (h:(b-a).p=j):dc a b 1=fl ax a j:=by
 subst h;rw [vE];unfold dc;refine aA (c7 af) ?_;rfl
theorem F1 (h:(a-b).p=j):dc a b (-1)=fl aw a j:=by
 subst h;rw [vE];unfold dc;refine aA (dA (by decide)) (aA (c7 af) ?_);rfl
theorem r7 {a b:Tx}(h:(a++b).a<=m):a.a+b.a<=m:=dw ai h
theorem jt {a b:Tx}(h:(a++b).a<=m):a.a<=m:=ab (ak _ _) (r7 h)
theorem uo (E:Eo' e)(l:f<4)(i:m<4):(lq j f q m e).a<=255:=by
 have b:=(Ej (z:=0) (k:=0) E l).1.g;have d:=(Ej (z:=0) (k:=0) E (f:=3-f) (aQ (fO 3 f) (aa af))).1.g;have h:=nN (Xu (z:=0) (k:=0) E q).2 1;have g:=ly (bb E.l) E.n;have a:=ly (bb E.r) E.n;have c:=aV (SY m i);have k:∀t:Tx,t.a<=t.a:=λy=>au _;refine nt6 j ?_ ?_ ?_ ?_ ?_ ?_ λj=>?_
 ·exact ab (cu (cu (cu (k DH) h) (k [32,116,104,101,110,32])) b) (aa af)
 ·exact ab (cu (cu (cu (cu (cu (k DH) h) (k [32,116,104,101,110,32])) b) (k [32,101,108,115,101,32])) d) (aa af)
 ·exact ab (cu (cu (cu (cu (k [119,104,105,108,101,32,120,32,60,32]) c) (k [32,100,111,32,98,101,103,105,110,32,120,32,58,61,32,120,32,43,32,49,59,32])) b) (k Jg)) (aa af)
 ·exact ab (cu (cu (cu (k [114,101,112,101,97,116,32,120,32,58,61,32,120,32,45,32,49,59,32]) b) (k [32,117,110,116,105,108,32,120,32,60,61,32])) c) (aa af)
 ·exact ab (cu (cu (cu (cu (cu (k [102,111,114,32,120,32,58,61,32]) g) (k [32,116,111,32])) a) (k [32,100,111,32])) b) (aa af)
 ·exact ab (cu (cu (cu (cu (cu (k [102,111,114,32,120,32,58,61,32]) g) (k [32,100,111,119,110,116,111,32])) a) (k [32,100,111,32])) b) (aa af)
 ·exact ab (cu (cu (cu (cu (k [98,101,103,105,110,32]) b) (k [59,32])) d) (k Jg)) (aa af)
theorem pR (d:bd p a)(c:bd p b):bd p (jd a b)/\bd p (vV a b):=by
 rcases EZ a b with h|h
 ·refine aA (eW h) (aA (jS h) ?_);exact ⟨d,c⟩
 ·refine aA (gi h) (aA (zI h) ?_);exact ⟨c,d⟩
theorem Rx (h:bd p a)(b:p<=40):a.o<=n9:=dK (h.le b)
theorem Cf (h:j<n):lZ (((j+a:aB):aU)-(a:aU)) n=ah j:=by
 rw [zH,cT];exact jb h
section
variable {T:dt}{D:aB->aJ cO}{n:aB}{σ:a8}{Q:QV}{X:QX}{c:Cs}{r:aB}{e:Ee}{p:aB}
def SpQ (k f q m:aB)(e:Ee)(c:Cs)(σ:a8)(Q:QV):Prop:=∀a d b,jL σ a->CO a d (VX k f q m e c)->a[b]?=ah (.a ((Yi k f q m e c).d oV))->Q (.f [(Ji k f q m e).K,.c (lq k f q m e),.e d,.e b,.d (FZ k m e c)]) a
theorem QA (K:Law1 T D)(hf:f<4)(E:EA e)(hp:p<=60):∀(l:ao aU) (c:Cs) (ev:Ev) (σ:a8) (r s:aB) (h:ao (aJ aU)),CO σ r c->0<c.c.a->c.c.a<=100->LB f p c->(∀v∈l,bd (p+3) v)->h.a+l.a<=1000->ev 1=ah (.d f)->ev 4=ah (wq e)->ev 5=ah (.e r)->ev 15=ah (.e s)->σ[s]?=ah (.a (h.d oV))->
  (∀ev' d m g,jL σ d->(∀i,i≠5->i≠6->i≠15->i≠16->ev' i=ev i)->ev' 5=ah (.e m)->ev' 15=ah (.e g)->CO d m (JS f e c l)->d[g]?=ah (.a ((h++Jr f e c l).d oV))->QQ .a ev' d)->
  jg (CX 16) (di T (bp T D (n+2)) Uw) (l.d .d) ev σ QQ XX:=by
 intro l9
 induction l9 with
 |nil=>
  intro c ev σ r s h L _ _ _ _ _ _ _ N j H q;exact q ev σ r s (jL.ig σ) (λ_ _ _ _ _=>af) N j L (by refine aA (show Jr f e c []=[] from af) ?_;rw [bD];exact H)
 |cons v l F=>
  intro c ev σ r s h L h0 M hB Z Y e1 e4 N j H q;have y:((cl c).d AV.d).a=c.c.a+2:=by rw [ay];rfl
  have V:=hB.Tv (Z v (.head _));have B:Bd 200 200 200 (kM c v):=by
   have b:=V.all;have u:3*p+15<=200:=ab (aj (bP 3 hp) 15) (aa af);exact ⟨b.x.le u,b.y.le u,λv hv=>(b.a v hv).le u⟩
  refine mq ?_;intro q9;refine cE (aH (e:=bu ev 16 _) (i:=1) e1 (aH (e:=bu ev 16 _) (i:=4) e4 (aH (e:=bu ev 16 _) (i:=5) N ⟨K.a 34 af af,?_⟩)));refine vt K (p:=0) L (by refine aA y ?_;exact cp _) (by refine aA y ?_;exact ab (aj M 2) (aa af)) λo d P J=>⟨K.a 37 af af,?_⟩;refine Np K hf E (show CO d o (kM c v) from J) h0 M B λa m r2 O h2 o2=>(aH (e:=bu (bu (bu ev 16 _) 6 _) 5 _) (i:=15) j ?_);refine bk ((P.gY O).wB H) (bk o2 ⟨?_,?_⟩)
  ·rw [ay,ay];exact ab (aL (ab (ak _ _) Y) (ou _ _ _)) (aa af)
  have ox:∀(A:ao AV),A=(h++sZ f e (kM c v)).d oV->_:=λA hA=>F (ow f e (kM c v)) (bu (bu (bu (bu ev 16 (.d v)) 6 (.f [(ka f e).K,.c (fq (ka f e)),.e m,.e r2])) 5 (.e m)) 15 (.e a.a)) (a++[.a A]) m a.a (h++sZ f e (kM c v)) (h2.GH (jL.ig a).eP) (by refine aA (wY f e (kM c v)).2 ?_;exact h0) (by refine aA (wY f e (kM c v)).2 ?_;exact M) (V.do E.toEo') (λw hw=>Z w (.R _ hw)) (by refine aA ai ?_;exact ab (aj (ar (ou _ _ _) _) _) (by rw [bW,cv 1];exact Y)) e1 e4 af af (dw hA bO) (λev' d z g x3 k k5 C I G=>q ev' d z g (((P.gY O).eP).gY x3) (λi X W x t=>(k i X W x t).b ((dG i x).b ((dG i X).b ((dG i W).b (dG i t))))) k5 C I (by refine aA (show Jr f e c (v::l)=sZ f e (kM c v)++Jr f e (ow f e (kM c v)) l from af) ?_;rw [← ag];exact G));exact ox _ (cw ..).h
end
section
variable {T:dt}{D:aB->aJ cO}{n:aB}{σ:a8}{Q:QV}{X:QX}{c:Cs}{r:aB}{e:Ee}{p:aB}
theorem Wc (K:Law1 T D)(V:f<4)(E:EA e)(O:p<=60){k:aB}(W:CO σ r c)(h0:0<c.c.a)(Z:c.c.a<=100)(Y:LB f p c)(P:∀v∈L,bd (p+3) v)(I:L.a<=18)(o:st=1\/st=-1)(z:dc a b st=L)(e0:ev 0=ah (.d k))(e1:ev 1=ah (.d f))(e4:ev 4=ah (wq e))(e5:ev 5=ah (.e r))(e9:ev 9=ah (.c tx))(F:ev 10=ah tr)(w:ev 14=ah (.k a b st))
  (q:∀m y G,jL σ m->CO m y (JS f e c L)->m[G]?=ah (.a ((Jr f e c L).d oV))->Q (.f [tr,.c tx,.e y,.e G,.d (match bg ((k:aU)=3) with
   |true=>L.a
   |false=>L.a+1)]) m):di T (bp T D (n+2)) (dj 1 Br) ev σ (ux Q) (λ_ m=>X m):=by
 have J:(dc a b st).a<=gL:=aA z (ab I (aa af));refine cE (aH (e:=bu ev 15 _) (i:=14) w (b8 (a:=L.d .d) ((c7 o).b (aW (λl=>ah (l.d AV.d)) z)) ?_));refine QA K V E O L c (bu ev 15 (.e σ.a)) (σ++[.a []]) r σ.a [] (W.GH (jL.ig σ).eP) h0 Z Y P (ab (aV (dJ _)) (ab I (aa af))) e1 e4 e5 af bO λj m y A x N H s C B=>?_;have g:∀i,i≠5->i≠6->i≠15->i≠16->j i=ev i:=λi a b c d=>(N i a b c d).b (dG i c);have t:=(g 14 (by decide) (by decide) (by decide) (by decide)).b w;have M:=(g 9 (by decide) (by decide) (by decide) (by decide)).b e9;have u:=(g 10 (by decide) (by decide) (by decide) (by decide)).b F;have q:=q m y A ((jL.ig σ).eP.gY x) C B;refine cE (aH t (dX o J ?_));refine aH (e:=bu j 17 _) (i:=0) ((g 0 (by decide) (by decide) (by decide) (by decide)).b e0) (fE (b:=bg ((k:aU)=3)) (λh=>?_) λh=>?_)
 ·rw [h,← z] at q;refine aH (e:=bu j 17 _) (i:=14) t (dX o J ?_);exact aH (e:=bu (bu j 17 _) 17 _) (i:=10) u (aH (e:=bu (bu j 17 _) 17 _) (i:=9) M (aH (e:=bu (bu j 17 _) 17 _) (i:=5) H (aH (e:=bu (bu j 17 _) 17 _) (i:=15) s q)))
 ·rw [h,← z] at q;exact aH (e:=bu j 17 _) (i:=10) u (aH (e:=bu j 17 _) (i:=9) M (aH (e:=bu j 17 _) (i:=5) H (aH (e:=bu j 17 _) (i:=15) s q)))
end
theorem rd2:(jd m (x+18)+1-(x+1)).p=jj (m-x):=by
 unfold jj;rw [Int.add_sub_add_right,← Int.sub_min_sub_right,iy x,cT]
theorem rd3:(x-1-(vV y (x-18)-1)).p=jj (x-y):=by
 unfold jj;rw [aaP,← Int.sub_min_sub_left,ql]
theorem rd4:(jd h (l+17)+1-l).p=jj (h-l+1):=by
 unfold jj;rw [← Int.min_add_right,← Int.sub_min_sub_right,S5,Int.add_assoc,iy l,cT];rfl
theorem rd5:(l-(vV h (l-17)-1)).p=jj (l-h+1):=by
 unfold jj;rw [aaQ,← Int.sub_min_sub_left,ql,← Int.min_add_right];rfl
noncomputable def SS (j m:aB)(e:Ee)(c:Cs):aU×aU×aU:=match j with
 |0=>(c.x+1,jd (m:aU) (c.x+18)+1,1)
 |1=>(c.x-1,vV (jd (m:aU) (c.x-1)) (c.x-18)-1,-1)
 |2=>(d8 e.l e.n c,jd (d8 e.r e.n c) (d8 e.l e.n c+17)+1,1)
 |_=>(d8 e.l e.n c,vV (d8 e.r e.n c) (d8 e.l e.n c-17)-1,-1)
theorem aaf (j m:aB)(e:Ee)(c:Cs):(SS j m e c).2.2=1\/(SS j m e c).2.2=-1:=match j with
 |0=>.C af
 |1=>.y af
 |2=>.C af
 |_+3=>.y af
theorem aag (a:j<4):dc (SS j m e c).1 (SS j m e c).2.1 (SS j m e c).2.2=VW (j+2) m e c:=by
 refine YQ a ?_ ?_ ?_ ?_
 ·exact F0 rd2
 ·exact F1 rd3
 ·exact F0 rd4
 ·exact F1 rd5
theorem aaY (e:3<=p)(c:bd (p+2) v):∀w∈fl up v (jj n),bd (p+3) w:=λw b=>by
 rw [vE] at b;refine bf (iT.g b) λi d a=>?_;subst a;exact sS e c (ab (dK (sa.g d)) (q0 _)) up
theorem ZR (d:3<=p)(B:Bd p p p c)(E:Eo' e):(∀v∈VW k m e c,bd (p+3) v)/\(VW k m e c).a<=18:=by
 have f:∀a,bd (p+2) (gN a c.x):=λa=>by
  have h:bd p (1:aU):=(AQ af:bd 1 1).le (ab (aa af) d);cases a with
  |true=>exact (B.x.Gu h).le (bh _)
  |false=>exact (B.x.Cu h).le (bh _)
 have b:bd (p+2) (d8 e.l e.n c):=qf B E.n (au _) (ak _ _) _ (.C E.l);have g:∀a v n,bd (p+2) v->(∀w∈fl a v (jj n),bd (p+3) w)/\(fl a v (jj n)).a<=18:=λa v n i=>⟨aaY d i,by rw [q8];exact q0 _⟩
 match k with
 |2=>exact g _ _ _ (f ax)
 |3=>exact g _ _ _ (f aw)
 |0=>exact g _ _ _ b
 |1=>exact g _ _ _ b
 |4=>exact g _ _ _ b
 |k+5=>exact g _ _ _ b
section
variable {T:dt}{D:aB->aJ cO}{n:aB}{σ:a8}{Q:QV}{X:QX}{c:Cs}{r:aB}{e:Ee}{p:aB}
theorem V4 (h:ey T C b ev σ (λv a=>di T C Br (bu ev i v) a QQ XX) (XX ev)):di T C (.a (.rA i b) Br) ev σ QQ XX:=by
 unfold Br at h ⊢;exact h
theorem B9 (K:Law1 T D)(g:j<4)(I:f<4)(z:m<4)(E:EA e)(l:CO σ r c)(A:0<c.c.a)(V:c.c.a<=100)(J:3<=p)(y:p<=24)(B:Bd p p p c)(b:SpQ (j+2) f q m e c σ Q):di T (bp T D (n+2)) Ut (bu (λi=>[AV.d ((j+2:aB):aU),.d f,.d q,.d m,wq e,.e r][i]?) 6 (.f [(ka f e).K,.c (fq (ka f e)),.e Y,.e W])) σ (ux Q) (λ_ x=>X x):=by
 have H:bd 900 c.x:=B.x.le (ab y (aa af));have L:∀j,(lq j f q m e).a<=gL:=λj=>ab (uo E.toEo' I z) (aa af);have G:((m:aB):aU).o<2 ^ 100:=cH z (aa af);have t:(cl c)[0]?=ah c.x:=af;have F:bd (p+2) (d8 e.l e.n c):=qf B E.n (au _) (ak _ _) _ (.C E.l);have M:bd (p+2) (d8 e.r e.n c):=qf B E.n (au _) (ak _ _) _ (.C E.r);have u:bd (p+2) c.x:=B.x.le (ak _ _);have d:∀(i:aB),i<32->bd (p+2) (i:aU):=λi h=>(show bd 5 (i:aU) from h).le (aj J 2);have o:∀{v:aU} {s:aB},bd (p+s) v->s<=10->v.o<=n9:=λh P=>Rx h (ab (aL y P) (aa af));have N:bd (p+3) (m:aU):=(d m (cH z (aa af))).le (bh _);have w:∀s,bd (p+2+s) (1:aU):=λs=>(d 1 (by decide)).le (ak _ _);have O:=o (s:=2) F (aa af);refine gd ?_;intro C;refine cE (eu ⟨K.a 36 af af,lH K (bb E.l) E.n l A H ?_⟩);refine gd ?_;intro C;refine cE (eu ⟨K.a 36 af af,lH K (bb E.r) E.n l A H ?_⟩);refine gd ?_;intro C;refine cE (cE (b8 (Cf (a:=2) (n:=4) g) (b8 (a:=(Ji (j+2) f q m e).K) ?_ ?_)))
 ·match j with
  |0=>rfl
  |1=>rfl
  |2=>rfl
  |3=>rfl
  |j+4=>exact bZ g (eg (aF 4 j))
 refine gd ?_;intro C;refine V4 (yj G (r7 (jt (jt (jt (L 2))))) (r7 (jt (jt (L 2)))) (r7 (jt (L 2))) (r7 (L 2)) ?_);refine lP (r7 (jt (jt (L 3)))) (r7 (jt (L 3))) G (r7 (L 3)) ?_;refine yj (r7 (jt (jt (jt (jt (L 4)))))) (r7 (jt (jt (jt (L 4))))) (r7 (jt (jt (L 4)))) (r7 (jt (L 4))) (r7 (L 4)) ?_;refine yj (r7 (jt (jt (jt (jt (L 5)))))) (r7 (jt (jt (jt (L 5))))) (r7 (jt (jt (L 5)))) (r7 (jt (L 5))) (r7 (L 5)) ?_;refine b8 (Cf (a:=2) (n:=4) g) (b8 (a:=.c (lq (j+2) f q m e)) ?_ ?_)
 ·match j with
  |0=>rfl
  |1=>rfl
  |2=>rfl
  |3=>rfl
  |j+4=>exact bZ g (eg (aF 4 j))
 refine cE (qd (i:=0) l t ?_);refine qd (i:=0) l t (dX (o (s:=3) (u.Gu (d 1 (by decide))) (by decide)) (o (s:=4) ((pR N (u.Gu (d 18 (by decide)))).1.Gu (w 1)) (by decide)) ?_);refine qd (i:=0) l t (qd (i:=0) l t ?_);refine qd (i:=0) l t ⟨(o (s:=3) (u.Cu (d 1 (by decide))) (by decide)),(o (s:=4) ((pR (pR N (u.Cu (d 1 (by decide)))).1 (u.Cu (d 18 (by decide)))).2.Cu (w 1)) (by decide)),af,O,(o (s:=4) ((pR (M.le (bh _)) (F.Gu (d 17 (by decide)))).1.Gu (w 1)) (by decide)),O,(o (s:=4) ((pR (M.le (bh _)) (F.Cu (d 17 (by decide)))).2.Cu (w 1)) (by decide)),af,?_⟩;refine b8 (Cf (a:=2) (n:=4) g) (b8 (a:=.k (SS j m e c).1 (SS j m e c).2.1 (SS j m e c).2.2) ?_ ?_)
 ·match j with
  |0=>rfl
  |1=>rfl
  |2=>rfl
  |3=>rfl
  |j+4=>exact bZ g (eg (aF 4 j))
 have S:=ZR (k:=j+2) (m:=m) J B E.toEo';refine Wc K I E (ab y (aa af)) (k:=j+2) (tr:=(Ji (j+2) f q m e).K) (tx:=lq (j+2) f q m e) l A V (LB.of B) S.1 S.2 (aaf j m e c) (aag g) af af af af af af af ?_;revert b;refine YQ g ?_ ?_ ?_ ?_
 ·intro b;exact b
 ·intro b;exact b
 ·intro b;exact b
 ·intro b;exact b
end
section
variable {T:dt}{D:aB->aJ cO}{n:aB}{σ:a8}{Q:QV}{X:QX}{c:Cs}{r:aB}{e:Ee}{p:aB}
theorem Nq (K:Law1 T D)(a:f<4)(E:EA e)(b:CO σ r c)(g:0<c.c.a)(d:c.c.a<=100)(B:Bd 200 200 200 c)(q:DoQ (3-f) e c σ Q):bp T D (n+2) 37 [.d (3-(f:aU)),wq e,.e r] σ Q X:=by
 exact aA (show (3:aU)-(f:aU)=((3-f:aB):aU) from (uH (lg a)).h) (Np K (aQ (fO 3 f) (aa af)) E b g d B q)
theorem adk (K:Law1 T D)(G:k<2)(u:f<4)(C:q<7)(F:m<4)(E:EA e)(s:CO σ r c)(y:0<c.c.a)(I:c.c.a<=100)(B:Bd 200 200 200 c)(w:CO σ o (ow f e c))(t:σ[g]?=ah (.a ((sZ f e c).d oV)))
  (d:∀ev,SpQ k f q m e c σ λv a=>QQ (.b v) ev a):di T (bp T D (n+2)) Uu (bu (λi=>[AV.d (k:aU),.d f,.d q,.d m,wq e,.e r][i]?) 6 (.f [(ka f e).K,.c (fq (ka f e)),.e o,.e g])) σ QQ XX:=by
 have L:∀j,(lq j f q m e).a<=gL:=λj=>ab (uo E.toEo' u F) (aa af);refine cE (eu ⟨K.a 38 af af,Xp K C E s y (B.x.le (aa af)) ?_⟩);refine cE (eu ⟨K.a 37 af af,Nq K u E s y I B λa z A x H p=>?_⟩);refine cE (yj (r7 (jt (jt (jt (jt (L 1)))))) (r7 (jt (jt (jt (L 1))))) (r7 (jt (jt (L 1)))) (r7 (jt (L 1))) (r7 (L 1)) ?_);revert d;refine lt2 G ?_ ?_
 ·intro d;refine fK (r7 (jt (jt (L 0)))) (r7 (jt (L 0))) (r7 (L 0)) ?_;have d:∀ev,∀a l g,jL σ a->CO a l (match w0 q e c with
   |true=>ow f e c
   |false=>c)->a[g]?=ah (.a ((match w0 q e c with
   |true=>sZ f e c
   |false=>[]).d oV))->QQ (.b (.f [(Ji 0 f q m e).K,.c (lq 0 f q m e),.e l,.e g,.d 0])) ev a:=d
  refine fE (b:=w0 q e c) (λh=>?_) λh=>?_
  ·rw [h] at d;exact d _ _ o g x.eP (w.GH x.eP) (x.eP.wB t)
  ·rw [h] at d;exact d _ _ r a.a x.eP (s.GH x.eP) bO
 ·intro d;have d:∀ev,∀a l g,jL σ a->CO a l (match w0 q e c with
   |true=>ow f e c
   |false=>ow (3-f) e c)->a[g]?=ah (.a ((match w0 q e c with
   |true=>sZ f e c
   |false=>sZ (3-f) e c).d oV))->QQ (.b (.f [(Ji 1 f q m e).K,.c (lq 1 f q m e),.e l,.e g,.d 0])) ev a:=d
  refine fE (b:=w0 q e c) (λh=>?_) λh=>?_
  ·rw [h] at d;exact d _ _ o g x (w.GH x) (x.wB t)
  ·rw [h] at d;exact d _ _ z A x H p
theorem abh (K:Law1 T D)(d:f<4)(p:m<4)(E:EA e)(w:0<c.c.a)(u:c.c.a<=100)(B:Bd 200 200 200 (ow f e c))(t:CO σ k (ow f e c))(o:σ[g]?=ah (.a ((sZ f e c).d oV)))
  (l:∀ev,SpQ 6 f q m e c σ λv a=>QQ (.b v) ev a):di T (bp T D (n+2)) Uv (bu (λi=>[AV.d ((6:aB):aU),.d f,.d q,.d m,wq e,.e r][i]?) 6 (.f [(ka f e).K,.c (fq (ka f e)),.e k,.e g])) σ QQ XX:=by
 have L:∀j,(lq j f q m e).a<=gL:=λj=>ab (uo E.toEo' d p) (aa af);have z:(ow f e c).c.a=c.c.a:=(wY f e c).2;refine gd ?_;intro y;refine cE (eu ⟨K.a 37 af af,Nq K d E t (by refine aA z ?_;exact w) (by refine aA z ?_;exact u) B λa h A x s b=>?_⟩);refine gd ?_;intro y;refine lP (r7 (jt (jt (jt (L 6))))) (r7 (jt (jt (L 6)))) (r7 (jt (L 6))) (r7 (L 6)) ?_;refine bk (x.wB o) (bk b ⟨?_,?_⟩)
 ·rw [ay,ay];exact ab (aL (ou _ _ _) (ou _ _ _)) (aa af)
 exact l _ _ h a.a x.eP (s.GH (jL.ig a).eP) (by refine aA bO (dw cw ?_);rfl)
theorem Hg (K:Law1 T D)(P:k<7)(s:f<4)(O:q<7)(z:m<4)(E:EA e)(l:CO σ r c)(w:0<c.c.a)(t:c.c.a<=100)(A:3<=p)(y:p<=24)(B:Bd p p p c)(a:SpQ k f q m e c σ Q):bp T D (n+3) 39 [.d k,.d f,.d q,.d m,wq e,.e r] σ Q X:=by
 have u:p<=200:=ab y (aa af);have J:Bd 200 200 200 c:=⟨B.x.le u,B.y.le u,λv F=>(B.a v F).le u⟩;refine bU K.y af ?_;refine cE (eu ⟨K.a 37 af af,Np K s E l w t J λd N C x H G=>?_⟩);have a:SpQ k f q m e c d Q:=λo M C L=>a o M C (x.gY L);have l:=l.GH x;have g:k<2->di T (bp T D (n+2)) (dj 1 Bs.a) (bu (λi=>[AV.d (k:aU),.d f,.d q,.d m,wq e,.e r][i]?) 6 (.f [(ka f e).K,.c (fq (ka f e)),.e N,.e C])) d (ux Q) (λ_ o=>X o):=λI=>by
  refine gd ?_;intro W;refine fE (b:=bg ((k:aU)<2)) (λ_=>?_) λh=>bZ (cM.i I) (cV h);exact adk K I s O z E l w t J H G λV=>a
 revert a g;refine X5 P ?_ ?_ ?_ ?_ ?_ ?_ ?_
 ·intro a g;exact g (aa af)
 ·intro a g;exact g (aa af)
 ·intro a g;exact B9 K (j:=0) (aa af) s z E l w t A y B a
 ·intro a g;exact B9 K (j:=1) (aa af) s z E l w t A y B a
 ·intro a g;exact B9 K (j:=2) (aa af) s z E l w t A y B a
 ·intro a g;exact B9 K (j:=3) (aa af) s z E l w t A y B a
 ·intro a g;have b:=((LB.of (f:=f) B).do E.toEo').all;have u:3*p+15<=200:=ab (aj (bP 3 y) 15) (aa af);exact abh K s z E w t ⟨b.x.le u,b.y.le u,λv F=>(b.a v F).le u⟩ H G λV=>a
end
theorem Q2 (v:aU)(j:aB):fl ax v (j+1)=fl ax v j++[v+j]:=by
 rw [vE,vE,List.range_succ,cw];rfl
theorem aaB:∀(n:aB) (u:aU),lv n u=fl ax (u-n) (n+1):=by
 intro b
 induction b with
 |zero=>
  intro u;show [u]=[u-(0:aB)];exact aA (show u-((0:aB):aU)=u from qD u) af
 |succ n a=>
  intro u;show lv n (u-1)++[u]=_;exact aA (a (u-1)) (dw (QL n) (aA (Q2 _ (n+1)) (aA ((aW (·+((n+1:aB):aU)) (QL n)).b (Int.sub_add_cancel u _)) af)))
theorem MJ (u:aU):(jd u 7+1-jd u 1).p=D3 u+1/\jd u 7-(D3 u:aU)=jd u 1:=by
 unfold D3;rcases EZ u 1 with h|h
 ·refine aA (eW h) ?_;rw [eW (ee h (by decide)),Int.toNat_of_nonpos (mn h),iy u,cT];exact ⟨af,qD u⟩
 ·refine aA (gi h) ?_;obtain ⟨m,a⟩:=dn (jH (J4.i ⟨h,(by decide:(1:Int)<=7)⟩));rw [wN,Int.sub_self,nv,a,rT.g a];exact ⟨af,dw (iy ..) (cT ..)⟩
theorem Ws (u:aU):dc (jd u 1) (jd u 7+1) 1=lV u:=by
 unfold lV;refine aA (F0 (MJ u).1) ?_;rw [aaB,(MJ u).2]
theorem aaA (u:aU):(lV u).a<=7:=by
 unfold lV;rw [yW];exact az (MK u)
theorem B5 {l:ao aU}(h:∀v∈l,bd m v)(c:bd m a)(b:v∈l.w i a):bd m v:=by
 rcases List.mem_or_eq_of_mem_set b with q|q
 ·exact h v q
 ·exact aA q c
theorem xp {l:ao aU}(h:∀v∈l,bd m v)(a:i<l.a):bd m (l.l i 0):=by
 refine aA cD (aA (bV a) ?_);exact h _ (List.getElem_mem a)
theorem aal (h:∀v∈l,bd m v)(c:p<l.a)(e:bd 40 t)(f:45<=m):∀v∈qS p t l,bd (m+4) v:=by
 have b:∀v∈l.w p (l.l p 0*2+4*t),bd (m+3) v:=λv a=>B5 (λv a=>(h v a).le (ak _ _)) ((show bd (m+2) (l.l p 0*2) from (xp h c).Xz (AQ af:bd 2 2)).Gu (show bd (m+2) (4*t) from ((AQ af:bd 3 4).Xz e).le (ab (aa af) (aj f 2)))) a;have d:0<(l.w p (l.l p 0*2+4*t)).a:=by refine aA bX ?_;exact aQ (bG _) c
 exact λv a=>B5 (λv a=>(b v a).le (bh _)) ((xp b d).Cu (show bd (m+3) (1:aU) from (AQ af:bd 1 1).le (aF _ _))) a
theorem F3 (p:aB)(t:aU)(l:ao aU):(qS p t l).a=l.a:=by unfold qS;refine aA bX ?_;rw [bX]
section
variable {T:dt}{D:aB->aJ cO}{n:aB}{σ:a8}{Q:QV}{X:QX}{c:Cs}{r:aB}{e:Ee}{p:aB}
theorem AK {l:ao aU}(h:σ[r]?=ah (.a (l.d .d)))(a:i<l.a)(q:P (.d (l.l i 0))):qI (.e r) (.d i) σ P:=by
 refine bk h (b8 (jb (by rw [ay];exact a)) (b8 ?_ q));exact cS▸cD▸aA (bV a) af
theorem Ww (K:Law1 T D):∀(ts l:ao aU) (m:aB) (ev:Ev) (σ:a8) (r s:aB) (f:ao aU),σ[r]?=ah (.a (l.d .d))->a<l.a->l.a<=1000->(∀v∈l,bd m v)->45<=m->m+4*ts.a<=900->(∀t∈ts,bd 40 t)->f.a+ts.a<=1000->ev 2=ah (.e r)->ev 3=ah (.e s)->ev 6=ah (.f [t0,t1,.d a])->σ[s]?=ah (.a (f.d .d))->
  (∀ev' c z d,jL σ c->(∀i,i≠2->i≠3->i≠10->ev' i=ev i)->ev' 2=ah (.e z)->ev' 3=ah (.e d)->c[z]?=ah (.a ((F4 a ts l).d .d))->c[d]?=ah (.a ((f++DR a ts l).d .d))->QQ .a ev' c)->
  jg (CX 10) (di T (bp T D (n+1)) Us) (ts.d .d) ev σ QQ XX:=by
 intro l9
 induction l9 with
 |nil=>
  intro l m ev σ r s f B _ _ _ _ _ _ _ F X _ N q;exact q ev σ r s (jL.ig σ) (λ_ _ _ _=>af) F X B (by rw [show DR a [] l=[] from af,bD];exact N)
 |cons t ts I=>
  intro l m ev σ r s f B g O hb hm h9 L hs F X C N q;have h0:0<l.a:=aQ (bG _) g;have u:∀{k:aB} {v:aU},bd k v->k<=1000->v.o<2 ^ 1000:=λh hk=>h.le hk;have m9:m<=1000:=ab (ak _ _) (ab h9 (aa af));have Z:(l.d AV.d).a=l.a:=ay ..;refine mq ?_;intro q9;refine gd ?_;intro e9;refine cE (aH (e:=bu ev 10 _) (i:=2) F (aH (e:=bu ev 10 _) (i:=6) C ?_));refine aH (e:=bu ev 10 _) (i:=2) F (aH (e:=bu ev 10 _) (i:=6) C (AK B g ?_));refine yj (u (xp hb g) m9) (by decide) (by decide) (u (L t (.head _)) (aa af)) (K.a 34 af af) ?_;refine vt K B (Z▸g) (Z▸O) λo G x1 V=>?_;rw [pN] at V;have W:0<(l.w a (l.l a 0*2+4*t)).a:=by rw [bX];exact h0
  refine gd ?_;intro e9;refine cE (AK (i:=0) V W ⟨K.a 34 af af,?_⟩);have Y:((l.w a (l.l a 0*2+4*t)).d AV.d).a=l.a:=by rw [ay,bX]
  refine vt K (p:=0) V (aS h0 (aV Y.h)) (ab (aV Y) O) λH b x2 y=>?_;rw [pN] at y;have y:b[H]?=ah (.a ((qS a t l).d .d)):=y;have j:=x1.gY x2;refine aH (e:=bu (bu (bu ev 10 _) 2 _) 2 _) (i:=3) X (aH (e:=bu (bu (bu ev 10 _) 2 _) 2 _) (i:=6) C (AK y (by rw [F3];exact g) ?_));refine bk (j.eP.wB N) (bk bO ⟨?_,?_⟩)
  ·rw [ay];exact ab (aj (ab (ak _ _) hs) 1) (aa af)
  have ox:∀(A:ao AV),A=(f++[(qS a t l).l a 0]).d .d->_:=λA hA=>I (qS a t l) (m+4) (bu (bu (bu (bu ev 10 (.d t)) 2 (.e o)) 2 (.e H)) 3 (.e (b++[MO.a [.d ((qS a t l).l a 0)]]).a)) (b++[MO.a [.d ((qS a t l).l a 0)]]++[.a A]) H (b++[MO.a [.d ((qS a t l).l a 0)]]).a (f++[(qS a t l).l a 0]) (cI (cI y)) (by rw [F3];exact g) (by rw [F3];exact O) (aal hb g (L t (.head _)) hm) (ab hm (ak _ _)) (by rw [bW,cv 4];exact h9) (λw hw=>L w (.R _ hw)) (by refine aA ai ?_;rw [bW,cv [(qS a t l).l a 0].a];exact hs) af af C (dw hA bO) (λev' c z d x3 k k2 k3 P M=>q ev' c z d ((j.eP.eP).gY x3) (λi J i3 x=>(k i J i3 x).b ((dG i i3).b ((dG i J).b ((dG i J).b (dG i x))))) k2 k3 P (by refine aA (show DR a (t::ts) l=[(qS a t l).l a 0]++DR a ts (qS a t l) from af) ?_;rw [← ag];exact M));exact ox _ (by refine aA cw ?_;rfl)
end
section
variable {T:dt}{D:aB->aJ cO}{n:aB}{σ:a8}{Q:QV}{X:QX}{c:Cs}{r:aB}{e:Ee}{p:aB}
theorem Q1 {e:Ev}(h:e k=ah (.k a b st))(hst:st=1\/st=-1)(hL:dc a b st=l)(g:jg (CX i) (di T C body) (l.d .d) e σ (Cr T C s q QQ XX) XX):di T C (.a (.DC i (.v k) body) (.a s q)) e σ QQ XX:=
 aH h (b8 (a:=l.d AV.d) ((c7 hst).b (aW (λl=>ah (l.d AV.d)) hL)) g)
theorem Wb (K:Law1 T D){pt:aB}{u:aU}(e2:ev 2=ah (.e r))(e4:ev 4=ah (.f [t4,s4,.d u]))(e6:ev 6=ah (.f [t0,t1,.d pt]))(e7:ev 7=ah tr)(e8:ev 8=ah (.c tx))(hu:bd 31 u)(hc:CO σ r c)(hp:pt<(cl c).a)(h9:c.c.a<=100)(hb:∀v∈cl c,bd 87 v)
  (q:∀σ' rc ro,jL σ σ'->σ'[rc]?=ah (.a ((F4 pt (lV u) (uJ (lV u).a (cl c))).d .d))->σ'[ro]?=ah (.a ((DR pt (lV u) (uJ (lV u).a (cl c))).d .d))->Q (.f [tr,.c tx,.e rc,.e ro,.d (3*((lV u).a:aU))]) σ'):di T (bp T D (n+1)) (dj 3 sM) ev σ (ux Q) (λ_ σ'=>X σ'):=by
 have L:=Ws u;have l7:=aaA u;have ln:(dc (jd u 1) (jd u 7+1) 1).a<=gL:=aA L (ab l7 (aa af));have o31:bd 31 (1:aU):=AQ af;have hc1:((cl c).d AV.d).a=c.c.a+2:=by rw [ay];rfl
 refine cE (aH e4 (aH e4 (dX (Rx (pR hu o31).1 (aa af)) (Rx ((pR hu (show bd 31 (7:aU) from AQ af)).1.Gu o31) (by decide)) ?_)));refine gd ?_;intro e9;refine cE (aH (e:=bu ev 9 _) (i:=2) e2 (aH (e:=bu ev 9 _) (i:=2) e2 (qd (i:=0) hc af (fK (.C af) ln (K.a 34 af af) ?_))));refine vt K (p:=0) hc (by refine aA hc1 ?_;exact cp _) (by refine aA hc1 ?_;exact ab (aj h9 2) (by decide)) λo σ₁ x1 h1=>?_;rw [pN,show dc (jd u (gc 1)) (jd u (gc 7)+gc 1) 1=_ from L] at h1;have dl:(uJ (lV u).a (cl c)).a=(cl c).a:=bX ..;have db:∀v∈uJ (lV u).a (cl c),bd 88 v:=λv hv=>by
  refine B5 (λv hv=>(hb v hv).le (aa af)) ((xp hb (by exact cp _)).Cu ?_) hv;exact (show bd 3 ((lV u).a:aU) from aQ l7 (aa af)).le (aa af)
 have bt:∀t∈lV u,bd 40 t:=λt ht=>by
  rw [← L] at ht;unfold dc at ht;rw [c7 af] at ht;refine bf (iT.g ht) λi hi e90=>?_;subst e90;have hi:i<8:=aS (sa.g hi) (by refine aA (MJ u).1 ?_;unfold lV at l7;rw [yW] at l7;exact b7 l7);exact ((pR hu o31).1.Gu ((show bd 3 (i:aU) from hi).le (aa af))).le (by decide)
 refine cE (Q1 (e:=bu (bu (bu ev 9 _) 2 _) 3 _) (k:=9) af (.C af) L ?_);refine Ww K (lV u) (uJ (lV u).a (cl c)) 88 (bu (bu (bu ev 9 (.k (jd u 1) (jd u 7+1) 1)) 2 (.e o)) 3 (.e σ₁.a)) (σ₁++[MO.a []]) o σ₁.a [] (cI h1) (dw dl hp) (dw dl (ab (aj h9 2) (by decide))) db (aa af) (ab (ar (bP 4 l7) 88) (aa af)) bt (ab (aV (dJ _)) (ab l7 (aa af))) af af e6 bO λev' σ' rc ro' x k k2 k3 hc' ho'=>?_;have g:∀i,i≠2->i≠3->i≠10->i≠9->ev' i=ev i:=λi a b c d=>(k i a b c).b ((dG i b).b ((dG i a).b (dG i d)));refine aH ((g 7 (by decide) (by decide) (by decide) (by decide)).b e7) (aH ((g 8 (by decide) (by decide) (by decide) (by decide)).b e8) (aH k2 (aH k3 ?_)));refine aH (k 9 (by decide) (by decide) (by decide)) (lP (.C af) ln (by decide) ?_ ?_)
 ·refine aA L ?_;exact aQ l7 (aa af)
 ·exact aA L (q σ' rc ro' ((x1.eP).gY x) hc' ho')
end
noncomputable def pvV (j:aB)(e:Ee)(c:Cs):aU:=match j with
 |0=>0
 |1=>1
 |_=>d8 e.i e.n c+2
theorem aan (b:j<3)(h:lR (j+1) e c=aw):pvV j e c=((pI (j+1) e c:aB):aU)/\pI (j+1) e c<(cl c).a:=by
 revert h;refine lt3 b ?_ ?_ ?_
 ·intro h;exact ⟨af,cp _⟩
 ·intro h;exact ⟨af,bL (cp _)⟩
 ·intro h;have h:(ax&&!sX (d8 e.i e.n c) c)=aw:=h;rw [Bool.true_and] at h;have d:sX (d8 e.i e.n c) c=ax:=by cases q:sX (d8 e.i e.n c) c with
   |true=>rfl
   |false=>have h:=q▸h;injection h
  obtain ⟨a,f⟩:=aX d;show d8 e.i e.n c+2=(((d8 e.i e.n c).p+2:aB):aU)/\(d8 e.i e.n c).p+2<c.c.a+2;exact ⟨by rw [zH];refine aA (iI a) ?_;rfl,jG ((nu a).i f) 2⟩
theorem aaj (k:aB)(e:Ee):[113,40]++d7 1 (fJ e.l e.n)++[44,32]++d7 1 (pX k e)++[41]=Tn nQ [fJ e.l e.n,pX k e]:=by
 show _=[113,40]++(d7 1 (fJ e.l e.n)++[44,32]++d7 1 (pX k e))++[41];rw [← ag,← ag]
section
variable {T:dt}{D:aB->aJ cO}{n:aB}{σ:a8}{Q:QV}{X:QX}{c:Cs}{r:aB}{e:Ee}{p:aB}
def ClQ (k:aB)(e:Ee)(c:Cs)(σ:a8)(Q:QV):Prop:=∀a d b,jL σ a->a[d]?=ah (.a ((dC k e c).d .d))->a[b]?=ah (.a ((dO k e c).d oV))->Q (.f [(Em k e).K,.c (fq (Em k e)),.e d,.e b,.d (dN k e c)]) a
theorem V3 (h:ey T C b ev σ (λv a=>di T C sM (bu ev i v) a QQ XX) (XX ev)):di T C (.a (.rA i b) sM) ev σ QQ XX:=by
 unfold sM at h ⊢;exact h
theorem PG (ha:∀{P:QV},P va σ->ey T C a ev σ P X)(hb:∀{P:QV},P vb σ->ey T C b ev σ P X)(q:P (.f [va,vb]) σ):ey T C (.p (.a a (.a b .b))) ev σ P X:=ha (hb q)
theorem PF {a b c:E}(ha:∀{P:QV},P va σ->ey T C a ev σ P X)(hb:∀{P:QV},P vb σ->ey T C b ev σ P X)(hc:∀{P:QV},P vc σ->ey T C c ev σ P X)(q:P (.f [va,vb,vc]) σ):ey T C (.p (.a a (.a b (.a c .b)))) ev σ P X:=ha (hb (hc q))
theorem jr (d:∀{P:QV},P (.c s) σ->ey T C a ev σ P X)(c:∀{P:QV},P (.c t) σ->ey T C b ev σ P X)(l:(s++t).a<=gL)(q:P (.c (s++t)) σ):ey T C (.n .a a b) ev σ P X:=f7 (d (c ⟨r7 l,q⟩))
theorem du (q:P (.c s) σ):ey T C (.h s) ev σ P X:=q
theorem aaW (tl:([113,40]++u1++[44,32]++p1++[41]).a<=gL)(e4:ev 4=ah (.f [u0,.c u1,.d u]))(e6:ev 6=ah (.f [p0,.c p1,.d i6]))(ht:.f [.c [99,97,108,108],.c [113],.f [u0,p0]]=tr)(hx:[113,40]++u1++[44,32]++p1++[41]=tx)(q:di T C (dj 2 sM) (bu (bu ev 7 tr) 8 (.c tx)) σ QQ XX):di T C sM ev σ QQ XX:=by
 subst ht;subst hx;refine cE (PF du du (λp=>PG (λp=>eT (j:=0) e4 af af p) (λp=>eT (j:=0) e6 af af p) p) ?_);refine gd ?_;intro e9;refine cE (jr (λp=>jr (λp=>jr (λp=>jr du (λp=>eT (e:=bu ev 7 _) (i:=4) (j:=1) e4 af af p) (jt (jt (jt tl))) p) du (jt (jt tl)) p) (λp=>eT (e:=bu ev 7 _) (i:=6) (j:=1) e6 af af p) (jt tl) p) du tl q)
theorem abj {k:aB}(e0:ev 0=ah (.d k))(g:ev 5=ah (.f [a,b,.d i]))(l:ev 2=ah (.e r))(j:CO σ r c)(q:P (.g (bg ((k:aU)=3)&&!sX i c)) σ):ey T C (.B (.a (.q .a (.v 0) (.d 3)) (.a (.I (.a (.q .c (.l (.v 5) (.d 2)) (.d 0)) (.a (.q .b (.l (.v 5) (.d 2)) (.n .c (.r .a (.a (.v 2) .b)) (.d 3))) .b))) .b))) ev σ P X:=by
 have e:((cl c).d AV.d).a=c.c.a+2:=by rw [ay];rfl
 refine aH e0 (fE (b:=bg ((k:aU)=3)) (λh=>?_) λh=>?_)
 ·rw [h] at q;refine aH g (fE (b:=bg (i<0)) (λd=>?_) λd=>?_)
  ·rw [show sX i c=aw from bR λz=>dQ.i z.1 (aX d)] at q;exact q
  refine aH g (aH l (bk j ?_));refine aA e ?_;rw [show (!sX i c)=bg (i>((c.c.a+2:aB):aU)-3) from ?_] at q
  ·exact q
  cases f:bg (i>((c.c.a+2:aB):aU)-3) with
  |true=>refine aA (show sX i c=aw from bR λz=>Cb.g (aX f) z.2) ?_;rfl
  |false=>refine aA (show sX i c=ax from bF ⟨dQ.g (cV d),Decidable.not_not.g λz=>cV f (Cb.i z)⟩) ?_;rfl
 ·have q:=h▸q;exact q
theorem AN (hc:∀{P:QV},P (.g b) σ->ey T C cnd ev σ P (XX ev))(h1:b=ax->di T C a ev σ (Cr T C s q QQ XX) XX)(h2:b=aw->di T C (.a s q) ev σ QQ XX):di T C (.a (.vj cnd a .b) (.a s q)) ev σ QQ XX:=hc (fE h1 h2)
theorem q40 (K:Law1 T D)(q:j<3)(E:EA e)(m:CO σ r c)(A:0<c.c.a)(M:c.c.a<=100)(B:Bd 29 87 29 c)(d:ClQ (j+1) e c σ Q):di T (bp T D (n+1)) Ur (λi=>[AV.d ((j+1:aB):aU),wq e,.e r][i]?) σ (ux Q) (λ_ b=>X b):=by
 have y:bd 900 c.x:=B.x.le (aa af);have J:∀v∈cl c,bd 87 v:=λv l=>by
  rcases cz.g l with rfl|l
  ·exact B.x.le (by decide)
  rcases cz.g l with rfl|l
  ·exact B.y
  ·exact (B.a v l).le (by decide)
 have w:([97,91]++d7 1 (fJ e.i e.n)++[93]).a<=2+10+1:=cu (cu (au 2) (ly (bb E.i) E.n)) (au 1);have G:(d7 1 (pX (j+1) e)).a<=13:=by
  match (generalizing:=false) j with
  |0=>exact aa af
  |1=>exact aa af
  |j+2=>exact w
 have u:([97,91]++d7 1 (fJ e.i e.n)++[93]).a<=gL:=ab w (aa af);refine gd ?_;intro P;refine cE (eu ⟨K.a 36 af af,lH K (bb E.l) E.n m A y ?_⟩);refine cE (eu ⟨K.a 36 af af,lH K (bb E.i) E.n m A y ?_⟩);refine gd ?_;intro P;refine V3 (dX (r7 (jt u)) (r7 u) ?_);refine b8 (Cf (a:=1) (n:=3) q) (b8 (a:=.f [(pX (j+1) e).d,.c (d7 1 (pX (j+1) e)),.d (pvV j e c)]) ?_ ?_)
 ·match j with
  |0=>rfl
  |1=>rfl
  |2=>rfl
  |j+3=>exact bZ q (eg (aF 3 j))
 have o:lR (j+1) e c=aw->di T (bp T D (n+1)) (dj 3 sM) (bu (bu (bu (bu (bu (λi=>[AV.d ((j+1:aB):aU),wq e,.e r][i]?) 4 (CJ e.l e.n c)) 5 (CJ e.i e.n c)) 6 (.f [(pX (j+1) e).d,.c (d7 1 (pX (j+1) e)),.d (pvV j e c)])) 7 (Em (j+1) e).K) 8 (.c (fq (Em (j+1) e)))) σ (ux Q) (λ_ b=>X b):=λh=>by
  obtain ⟨I,H⟩:=aan q h;refine aA I ?_;have d:∀b g f,jL σ b->b[g]?=ah (.a ((match lR (j+1) e c with
   |true=>cl c
   |false=>F4 (pI (j+1) e c) (lV (d8 e.l e.n c)) (uJ (lV (d8 e.l e.n c)).a (cl c))).d .d))->b[f]?=ah (.a ((match lR (j+1) e c with
   |true=>[aq]
   |false=>(DR (pI (j+1) e c) (lV (d8 e.l e.n c)) (uJ (lV (d8 e.l e.n c)).a (cl c))).d ah).d oV))->Q (.f [(Em (j+1) e).K,.c (fq (Em (j+1) e)),.e g,.e f,.d ((match lR (j+1) e c with
   |true=>1
   |false=>3*(lV (d8 e.l e.n c)).a:aB):aU)]) b:=d
  have d:=h▸d;refine Wb K af af af af af (qf B E.n (aa af) (aa af) _ (.C E.l)) m H M J λb g f x O N=>d b g f x O ?_;refine aA N (aA gR ?_);rfl
 refine aaW (tr:=(Em (j+1) e).K) (tx:=fq (Em (j+1) e)) (ab (cu (cu (cu (cu (au 2) (ly (bb E.l) E.n)) (au 2)) G) (au 1)) (aa af)) af af af (aaj (j+1) e) ?_;have s:lR (j+1) e c=ax->∀{t:QF} {F:XS},(∀C v b,Q v b->t (.b v) C b)->di T (bp T D (n+1)) (.a (.CF (.p (.a (.v 7) (.a (.v 8) (.a (.v 2) (.a (.z (.a .y .b)) (.a (.d 1) .b))))))) .b) (bu (bu (bu (bu (bu (λi=>[AV.d ((j+1:aB):aU),wq e,.e r][i]?) 4 (CJ e.l e.n c)) 5 (CJ e.i e.n c)) 6 (.f [(pX (j+1) e).d,.c (d7 1 (pX (j+1) e)),.d (pvV j e c)])) 7 (Em (j+1) e).K) 8 (.c (fq (Em (j+1) e)))) σ t F:=λh {t F} L=>by
  have d:∀b g f,jL σ b->b[g]?=ah (.a ((match lR (j+1) e c with
   |true=>cl c
   |false=>F4 (pI (j+1) e c) (lV (d8 e.l e.n c)) (uJ (lV (d8 e.l e.n c)).a (cl c))).d .d))->b[f]?=ah (.a ((match lR (j+1) e c with
   |true=>[aq]
   |false=>(DR (pI (j+1) e c) (lV (d8 e.l e.n c)) (uJ (lV (d8 e.l e.n c)).a (cl c))).d ah).d oV))->Q (.f [(Em (j+1) e).K,.c (fq (Em (j+1) e)),.e g,.e f,.d ((match lR (j+1) e c with
   |true=>1
   |false=>3*(lV (d8 e.l e.n c)).a:aB):aU)]) b:=d
  rw [h] at d;exact L _ _ _ (d (σ++[.a [.h]]) r σ.a (jL.ig σ).eP (m.GH (jL.ig σ).eP) bO)
 have z:(bg (((j+1:aB):aU)=3)&&!sX (d8 e.i e.n c) c)=lR (j+1) e c:=by
  refine lt3 q ?_ ?_ ?_
  ·rfl
  ·rfl
  ·rfl
 exact AN (λp=>abj (k:=j+1) af af af m p) (λh=>s (dw z h) λC v b h=>h) λh=>o (dw z h)
theorem Rv (K:Law1 T D)(a:k<4)(E:EA e)(f:CO σ r c)(w:0<c.c.a)(v:c.c.a<=100)(B:Bd 29 87 29 c)(d:ClQ k e c σ Q):bp T D (n+2) 40 [.d k,wq e,.e r] σ Q X:=by
 refine bU K.z af ?_;revert a d;refine C5 k ?_ λk=>?_
 ·intro a d;have s:=(pR B.x (show bd 29 (18:aU) from AQ af)).1;have g:dc (jd c.x 18) 0 (-1)=fl aw (jd c.x 18) (jd c.x 18).p:=F1 (by rw [qD]);have m:((dc (jd c.x 18) 0 (-1)).d λi=>AV.d (i*i))=((EH c).d ah).d oV:=by
   refine aA g ?_;rw [gR,EH,gR];rfl
  have u:(dc (jd c.x 18) 0 (-1)).a<=gL:=by
   refine aA g ?_;rw [q8];exact ab (i5.i (iK c.x 18)) (aa af)
  have t:∀i∈dc (jd c.x 18) 0 (-1),i.o<2 ^ 100:=λi o=>by
   rw [g,vE] at o;refine bf (iT.g o) λk a j=>?_;subst j;have a:k<18:=aS (sa.g a) (i5.i (iK c.x 18));exact (s.Cu ((show bd 5 (k:aU) from cH a (aa af)).le (aa af))).le (aa af)
  refine gd ?_;intro y;refine qd (i:=0) f af (acD (Rx s (aa af)) (by decide) af af t u ?_);have q:=d (σ++[.a ((dc (jd c.x 18) 0 (-1)).d λi=>AV.d (i*i))]) r σ.a (jL.ig σ).eP (f.GH (jL.ig σ).eP) (bO.b (aW (λl=>ah (MO.a l)) m));have x:((dN 0 e c:aB):aU)=((((dc (jd c.x 18) 0 (-1)).d λi=>AV.d (i*i)).a:aB):aU)+2:=by
   refine aA m ?_;rw [ay,ay];rfl
  have q:=x▸q;exact bk bO q
 ·intro a d;exact AN (b:=bg (((k+1:aB):aU)=0)) (λp=>p) (λh=>bZ (kQ (aX h)) (xF k)) λz=>q40 K (fZ a) E f w v B d
end
noncomputable def sN (l:ao aU)(i c:aB):aB:=((l.l i 0).fmod (c:aU)).p
theorem SN (l:ao aU)(i:aB){c:aB}(h:0<c):(l.l i 0).fmod (c:aU)=((sN l i c:aB):aU):=(iI (Int.fmod_nonneg_of_pos _ (cM.i h))).h
theorem mi (l:ao aU)(i:aB){c:aB}(h:0<c):sN l i c<c:=by
 have:=Int.fmod_lt_of_pos (l.l i 0) (cM.i h);rw [SN l i h] at this;exact cM.g this
noncomputable def CI (l:ao aU):Ee:=⟨sN l 9 5,sN l 10 5,sN l 11 5,sN l 12 4,sN l 13 5,sN l 14 5,aM (sN l 15 2) 1⟩
noncomputable def HE (l:ao aU):Ee:=⟨sN l 22 5,sN l 9 5,sN l 10 5,sN l 23 4,sN l 14 5,sN l 13 5,!aM (sN l 15 2) 1⟩
noncomputable def dT (l:ao aU):Pr:={z:=sN l 1 3,k:=sN l 7 4,m:=sN l 2 6,n:=sN l 3 5,E:=sN l 4 100000000000000000000,H:=sN l 16 7,L:=sN l 17 4,I:=sN l 18 7,M:=sN l 19 4,q:=sN l 21 7,w:=sN l 20 4,e:=CI l,g:=HE l}
theorem B6 (l:ao aU):EA (CI l)/\EA (HE l):=by
 have h:=λi c (a:0<c)=>mi l i a;exact ⟨⟨⟨h 9 5 (by decide),h 10 5 (by decide),h 11 5 (by decide),h 12 4 (by decide)⟩,h 13 5 (by decide),h 14 5 (by decide)⟩,⟨⟨h 22 5 (by decide),h 9 5 (by decide),h 10 5 (by decide),h 23 4 (by decide)⟩,h 14 5 (by decide),h 13 5 (by decide)⟩⟩
theorem uj (l:ao aU):(dT l).F:=by
 have h:=λi c (a:0<c)=>mi l i a;exact ⟨h 1 3 (by decide),h 7 4 (by decide),h 2 6 (by decide),h 3 5 (by decide),h 4 100000000000000000000 (by decide),h 20 4 (by decide),h 16 7 (by decide),h 17 4 (by decide),h 18 7 (by decide),h 19 4 (by decide),(B6 l).1.toEo',(B6 l).2.toEo'⟩
theorem H4 (h:x<2):((x:aB):aU)=(match aM x 1 with
  |false=>0
  |true=>1)/\(1:aU)-(x:aU)=(match !aM x 1 with
  |false=>0
  |true=>1):=by
 match x,h with
 |0,_=>exact ⟨af,af⟩
 |1,_=>exact ⟨af,af⟩
section
variable {T:dt}{D:aB->aJ cO}{C:fk}{σ:a8}{X:QX}{l:ao aU}{ev:Ev}
theorem yV {i c:aB}(f:ev 0=ah (.j (l.d .d)))(b:i<l.a)(d:0<c)(e:c<2 ^ 1000)(q:P (.d (sN l i c:aB)) σ):ey T C (.n .b (.l (.v 0) (.d i)) (.d c)) ev σ P X:=by
 refine aH f (b8 (jb (by rw [ay];exact b)) (b8 (a:=.d (l.l i 0)) ?_ ?_))
 ·exact cS▸cD▸aA (bV b) af
 refine dX (λq=>bZ (kQ q) (dW d)) e ?_;exact aA (SN l i d) q
theorem ej (q:lQ T C as ev σ (λvs a=>sP (bM vs.a gL) (P (.f vs) a)) X):ey T C (.p as) ev σ P X:=q
theorem bI (h:∀{P:QV},P v σ->ey T C a ev σ P X)(q:lQ T C as ev σ (λvs b=>P (v::vs) b) X):lQ T C (.a a as) ev σ P X:=h q
theorem eO (q:P [] σ):lQ T C .b ev σ P X:=q
theorem jJ (h:ev i=ah v)(q:P v σ):ey T C (.v i) ev σ P X:=aH h q
structure E1 (l:ao aU)(ev:Ev):Prop where
 c:ev 0=ah (.j (l.d .d))
 f:ev 1=ah (.d (sN l 0 5:aB))
 e:ev 2=ah (.d ((dT l).z+1:aB))
 g:ev 3=ah (.d ((dT l).m:aB))
 k:ev 4=ah (.d ((dT l).n:aB))
 m:ev 5=ah (.d ((dT l).E:aB))
 p:ev 6=ah (wq (CI l))
 q:ev 7=ah (wq (HE l))
theorem sx {P:ao AV->a8->Prop}(f:ev 0=ah (.j (l.d .d)))(b:24<=l.a)(h:i<24)(d:0<c)(e:c<2 ^ 1000)(q:lQ T C as ev σ (λvs a=>P (.d (sN l i c:aB)::vs) a) X):lQ T C (.a (.n .b (.l (.v 0) (.d i)) (.d c)) as) ev σ P X:=bI (λp=>yV f (aS h b) d e p) q
theorem adz (b:ev 0=ah (.j (l.d .d)))(a:24<=l.a)(q:P (wq (CI l)) σ):ey T C (.p (.a (.n .b (.l (.v 0) (.d 9)) (.d 5)) (.a (.n .b (.l (.v 0) (.d 10)) (.d 5)) (.a (.n .b (.l (.v 0) (.d 11)) (.d 5)) (.a (.n .b (.l (.v 0) (.d 12)) (.d 4)) (.a (.n .b (.l (.v 0) (.d 13)) (.d 5)) (.a (.n .b (.l (.v 0) (.d 14)) (.d 5)) (.a (.n .b (.l (.v 0) (.d 15)) (.d 2)) .b)))))))) ev σ P X:=by
 refine ej (sx (i:=9) (c:=5) b a (aa af) (by decide) (by decide) (sx (i:=10) (c:=5) b a (aa af) (by decide) (by decide) (sx (i:=11) (c:=5) b a (aa af) (by decide) (by decide) (sx (i:=12) (c:=4) b a (aa af) (aa af) (aa af) (sx (i:=13) (c:=5) b a (aa af) (by decide) (by decide) (sx (i:=14) (c:=5) b a (aa af) (by decide) (by decide) (sx (i:=15) (c:=2) b a (aa af) (by decide) (aa af) (eO ?_))))))));have q:P (.f [.d (sN l 9 5),.d (sN l 10 5),.d (sN l 11 5),.d (sN l 12 4),.d (sN l 13 5),.d (sN l 14 5),.d (match aM (sN l 15 2) 1 with
  |false=>0
  |true=>1)]) σ:=q
 rw [← (H4 (mi l 15 (c:=2) (by decide))).1] at q;exact q
theorem adw (e:ev 0=ah (.j (l.d .d)))(d:24<=l.a)(a:ev 6=ah (wq (CI l)))(q:P (wq (HE l)) σ):ey T C (.p (.a (.n .b (.l (.v 0) (.d 22)) (.d 5)) (.a (.l (.v 6) (.d 0)) (.a (.l (.v 6) (.d 1)) (.a (.n .b (.l (.v 0) (.d 23)) (.d 4)) (.a (.l (.v 6) (.d 5)) (.a (.l (.v 6) (.d 4)) (.a (.n .c (.d 1) (.l (.v 6) (.d 6))) .b)))))))) ev σ P X:=by
 have b:=H4 (mi l 15 (c:=2) (aa af));have a:ev 6=ah (.f [.d (sN l 9 5),.d (sN l 10 5),.d (sN l 11 5),.d (sN l 12 4),.d (sN l 13 5),.d (sN l 14 5),.d (match aM (sN l 15 2) 1 with
  |false=>0
  |true=>1)]):=a
 rw [← b.1] at a;refine ej (sx (i:=22) (c:=5) e d (aa af) (aa af) (aa af) (bI (λp=>eT (j:=0) a af af p) (bI (λp=>eT (j:=1) a af af p) (sx (i:=23) (c:=4) e d (aa af) (aa af) (by decide) (bI (λp=>eT (j:=5) a af af p) (bI (λp=>eT (j:=4) a af af p) (bI (v:=.d (1-(sN l 15 2:aU))) (λp=>f7 (eT (j:=6) a af af p)) (eO ?_))))))));have q:P (.f [.d (sN l 22 5),.d (sN l 9 5),.d (sN l 10 5),.d (sN l 23 4),.d (sN l 14 5),.d (sN l 13 5),.d (match !aM (sN l 15 2) 1 with
  |false=>0
  |true=>1)]) σ:=q
 rw [← b.2] at q;exact q
theorem VZ (h:ey T C b ev σ (λv a=>di T C ya (bu ev i v) a QQ XX) (XX ev)):di T C (.a (.rA i b) ya) ev σ QQ XX:=by
 unfold ya at h ⊢;exact h
theorem Xc (b:24<=l.a)(a:ev 0=ah (.j (l.d .d)))(q:∀ev',E1 l ev'->di T C ya ev' σ QQ XX):di T C (dj 1 l0) ev σ QQ XX:=by
 have M:∀(ev:Ev),ev 0=ah (.j (l.d .d))->∀(i c:aB),i<24->0<c->c<2 ^ 1000->∀{P:QV} {X:QX},P (.d (sN l i c:aB)) σ->ey T C (.n .b (.l (.v 0) (.d i)) (.d c)) ev σ P X:=λev a i c h d e {P X} q=>yV a ((λh=>aS h b) h) d e q;refine cE (M _ a 0 5 (by decide) (by decide) (by decide) ?_);refine cE (f7 (M (bu ev 1 _) a 1 3 (aa af) (aa af) (aa af) ?_));refine cE (M (bu (bu ev 1 _) 2 _) a 2 6 (aa af) (aa af) (aa af) ?_);refine cE (M (bu (bu (bu ev 1 _) 2 _) 3 _) a 3 5 (aa af) (by decide) (by decide) ?_);refine cE (M (bu (bu (bu (bu ev 1 _) 2 _) 3 _) 4 _) a 4 100000000000000000000 (aa af) (aa af) (aa af) ?_);refine cE (adz (ev:=bu (bu (bu (bu (bu ev 1 _) 2 _) 3 _) 4 _) 5 _) a b ?_);refine VZ (adw (ev:=bu (bu (bu (bu (bu (bu ev 1 _) 2 _) 3 _) 4 _) 5 _) 6 _) a b af ?_);exact q _ ⟨a,af,af,af,af,af,af,af⟩
end
noncomputable def BW (k:aB):AV:=match k with
 |0=>.f [.c nS,.f [],sB.f]
 |_=>.f [.c nQ,.f (qP.d xl),qB.f]
noncomputable def qX (p:Tx×Tx):AV:=.f [.c p.1,.c p.2]
noncomputable def aO:Tx:=[111,102,32,105,110,116,101,103,101,114,59]
noncomputable def aP:Tx:=[112,114,111,103,114,97,109,32,116,57,59]
noncomputable def aE:Tx:=[101,110,100,46]
noncomputable def qR:ao (Tx×Tx):=[(tX,[119,114,105,116,101,40,119,41]),(tX,[119,114,105,116,101,40,97,41]),(tX,[119,114,105,116,101,40,120,91,48,93,41]),(tX,[121,91,48,93,32,58,61,32,49]),(tX,[97,32,58,61,32,49]),(tX,[120]),(tX,[113,40,120,41]),(tX,[113,40,49,44,32,97,41]),(tX,[102,111,114,32,97,32,58,61,32,49,32,116,111,32,50,32,100,111]),(aO,[111,102,32,105,110,116,101,103,101,114,59,32,120,32,58,32,105,110,116,101,103,101,114,59]),(aO,[111,102,32,105,110,116,101,103,101,114,59,32,98,32,58,32,97,114,114,97,121,32,91,48,93,32,111,102,32,105,110,116,101,103,101,114,59]),(aO,[111,102,32,105,110,116,101,103,101,114,59,32,113,32,58,32,105,110,116,101,103,101,114,59,32,115,32,58,32,105,110,116,101,103,101,114,59])]
noncomputable def nL:ao (Tx×Tx):=[(aP,[112,114,111,103,114,97,109,32,111,102,59]),(aP,[112,114,111,103,114,97,109,32,116,233,59]),(aP,[116,57,59]),(aE,[101,110,100]),(aE,[101,110,100,46,32,55]),(tX,[119,114,105,116,101,40,120]),(tX,[119,114,105,116,101,40,49,100,105,118,32,49,41]),(tX,[105,102,32,120,32,58,61,32,49,32,116,104,101,110]),(tX,[119,114,105,116,101,40,1635,41]),(tX,[120,32,58,61,32,49,32,123]),(tX,[119,114,105,116,101,40,120,41,32,121,32,58,61,32,49]),(tX,[97,91,48,32,58,61,32,49])]
structure w4 (T:dt)(D:aB->aJ cO):Prop extends Law1 T D where
 E:D 41=ah YZ
 F:T.b 5=ah (.f [.f [BW 0,.c (pT 0)],.f [BW 1,.c (pT 1)]])
 B:T.b 6=ah (.f (kf.d qX))
 G:T.b 7=ah (.f (qR.d qX))
 H:T.b 8=ah (.f (nL.d qX))
 I:T.b 9=ah (.l (.v "tuple"))
section
variable {T:dt}{D:aB->aJ cO}{C:fk}{n:aB}{σ:a8}{X:QX}{l:ao aU}{ev:Ev}{P:Pr}
theorem aa9 {P:ao AV->a8->Prop}(q:ey T C a ev σ (λv c=>lQ T C as ev c (λvs b=>P (v::vs) b) X) X):lQ T C (.a a as) ev σ P X:=q
theorem abc (b:P.z<3)(e:ev 2=ah (.d (P.z+1:aB)))(d:ev 3=ah (.d (P.m:aB)))(c:ev 4=ah (.d (P.n:aB)))(q:∀a o,jL σ a->CO a o P.V->QQ (.e o) a):ey T C (.n .a (.z (.a (.n .c (.v 3) (.d 2)) (.a (.v 4) .b))) (.n .d (.z (.a (.d 0) .b)) (.v 2))) ev σ QQ X:=by
 refine f7 (aH d (aH c ?_));refine aH e (bk bO (KU 0 af (bq _) (cy.i (ab b (aa af))) ?_));refine bk (cI (cI bO)) (bk bO ⟨?_,?_⟩)
 ·refine aA gf ?_;exact ab (ar (show P.z+1<=3 from b) 2) (aa af)
 ·refine q _ _ (jL.ig σ).eP.eP.eP.eP ?_;show _=ah (MO.a (.d ((P.m:aU)-2)::.d P.n::(cZ (P.z+1) (0:aU)).d AV.d));exact dw List.map_replicate bO
structure E2 (l:ao aU)(ev:Ev)(σ:a8)(r1 o1 r2 o2 r3 o3:aB):Prop extends E1 l ev where
 h:ev 8=ah (.f [(dT l).A.K,.c (lq (dT l).H (dT l).L (dT l).q (dT l).w (CI l)),.e r1,.e o1,.d (FZ (dT l).H (dT l).w (CI l) (dT l).V:aB)])
 i:ev 9=ah (.f [(dT l).B.K,.c (lq (dT l).I (dT l).M (dT l).q (dT l).w (HE l)),.e r2,.e o2,.d (FZ (dT l).I (dT l).w (HE l) (dT l).c1:aB)])
 a:ev 10=ah (.f [(dT l).D.K,.c (fq (dT l).D),.e r3,.e o3,.d (dN (dT l).k (CI l) (dT l).U:aB)])
 b:ev 11=ah (.e r3)
 o:σ[o1]?=ah (.a ((dT l).o1.d oV))
 r:σ[o2]?=ah (.a ((dT l).o2.d oV))
 s:σ[o3]?=ah (.a ((dT l).Y.d oV))
 j:σ[r3]?=ah (.a ((dT l).l3.d .d))
theorem E1.d (h:E1 l ev)(b:7<i):E1 l (bu ev i v):=
 have n:∀{j},j<8->bu ev i v j=ev j:=λa=>dG _ (b5 (aS a b))
 ⟨(n (aa af)).b h.c,(n (aa af)).b h.f,(n (aa af)).b h.e,(n (aa af)).b h.g,(n (aa af)).b h.k,(n (aa af)).b h.m,(n (aa af)).b h.p,(n (aa af)).b h.q⟩
theorem V0 (h:ey T C b ev σ (λv a=>di T C yb (bu ev i v) a QQ XX) (XX ev)):di T C (.a (.rA i b) yb) ev σ QQ XX:=by
 unfold yb at h ⊢;exact h
theorem PR (K:Law1 T D)(w:24<=l.a)(H:E1 l ev)(q:∀ev' f k r h o g m,E2 l ev' f k r h o g m->di T (bp T D (n+3)) yb ev' f QQ XX):di T (bp T D (n+3)) ya ev σ QQ XX:=by
 have b:=uj l;have e:=Pr.RK b;have y:=B6 l;have z:(dT l).V.c.a=(dT l).z+1:=gf;have u:(dT l).z+1<=100:=ab b.z (aa af);have M:∀{i c:aB} (ev:Ev) (B:ev 0=ah (.j (l.d .d))),i<24->0<c->c<2 ^ 1000->∀{σ:a8} {x:Es} {P:ao AV->a8->Prop} {X:QX},lQ T (bp T D (n+3)) x ev σ (λF a=>P (.d (sN l i c:aB)::F) a) X->lQ T (bp T D (n+3)) (.a (.n .b (.l (.v 0) (.d i)) (.d c)) x) ev σ P X:=fun {i c} ev B L N O {σ x P X} q=>sx B w L N O q;refine cE (eu (M (i:=16) (c:=7) ev H.c (aa af) (by decide) (by decide) (M (i:=17) (c:=4) ev H.c (aa af) (by decide) (by decide) (M (i:=21) (c:=7) ev H.c (by decide) (by decide) (by decide) (M (i:=20) (c:=4) ev H.c (by decide) (by decide) (by decide) (bI (λp=>jJ H.p p) (aa9 (abc (P:=dT l) b.z H.e H.g H.k λa ro x1 c0=>eO ⟨K.a 39 af af,?_⟩))))))));refine Hg K b.k1 b.f1 (mi l 21 (by decide)) b.w y.1 c0 (by refine aA z ?_;exact cp _) (by refine aA z ?_;exact u) (aa af) (by decide) (Pr.b0 b) λt k r x2 Z J=>?_;have H:=H.d (i:=8) (v:=.f [(dT l).A.K,.c (lq (dT l).H (dT l).L (dT l).q (dT l).w (CI l)),.e k,.e r,.d (FZ (dT l).H (dT l).w (CI l) (dT l).V:aB)]) (aa af);refine gd ?_;intro V;refine cE (eu (M (i:=18) (c:=7) (bu ev 8 _) H.c (aa af) (by decide) (by decide) (M (i:=19) (c:=4) (bu ev 8 _) H.c (aa af) (by decide) (by decide) (M (i:=21) (c:=7) (bu ev 8 _) H.c (by decide) (by decide) (by decide) (M (i:=20) (c:=4) (bu ev 8 _) H.c (by decide) (by decide) (by decide) (bI (λp=>jJ H.q p) (bI (λp=>eT (i:=8) (j:=2) af af af p) (eO ⟨K.a 39 af af,?_⟩))))))));refine Hg K (c:=(dT l).c1) b.k2 b.f2 (mi l 21 (by decide)) b.w y.2 Z (by refine aA e.d ?_;exact cp _) (by refine aA e.d ?_;exact u) (by decide) (aa af) e.e λs h o C Y I=>?_;have H:=H.d (i:=9) (v:=.f [(dT l).B.K,.c (lq (dT l).I (dT l).M (dT l).q (dT l).w (HE l)),.e h,.e o,.d (FZ (dT l).I (dT l).w (HE l) (dT l).c1:aB)]) (aa af);refine gd ?_;intro V;refine cE (eu (M (i:=7) (c:=4) (bu (bu ev 8 _) 9 _) H.c (aa af) (by decide) (by decide) (bI (λp=>jJ H.p p) (bI (λp=>eT (i:=9) (j:=2) af af af p) (eO ⟨K.a 40 af af,?_⟩)))));refine Rv K (c:=(dT l).U) b.k y.1 Y (by refine aA e.c ?_;exact cp _) (by refine aA e.c ?_;exact u) e.g λd g m A W G=>?_;refine V0 (eT (i:=10) (j:=2) af af af ?_);exact q _ d k r h o g m ⟨(H.d (i:=10) (v:=.f [(dT l).D.K,.c (fq (dT l).D),.e g,.e m,.d (dN (dT l).k (CI l) (dT l).U:aB)]) (aa af)).d (aa af),af,af,af,af,(C.gY A).wB J,A.wB I,G,W⟩
end
noncomputable def Pr.Yp (P:Pr):ao (aJ aU):=P.o1++(P.o2++(P.Y++P.W.d ah))
section
variable {T:dt}{D:aB->aJ cO}{C:fk}{n:aB}{σ:a8}{X:QX}{l:ao aU}{ev:Ev}{P:Pr}
structure E3 (l:ao aU)(ev:Ev)(σ:a8)(r1 o1 r2 o2 r3 o3 o:aB):Prop extends E1 l ev where
 h:ev 8=ah (.f [(dT l).A.K,.c (lq (dT l).H (dT l).L (dT l).q (dT l).w (CI l)),.e r1,.e o1,.d (FZ (dT l).H (dT l).w (CI l) (dT l).V:aB)])
 i:ev 9=ah (.f [(dT l).B.K,.c (lq (dT l).I (dT l).M (dT l).q (dT l).w (HE l)),.e r2,.e o2,.d (FZ (dT l).I (dT l).w (HE l) (dT l).c1:aB)])
 a:ev 10=ah (.f [(dT l).D.K,.c (fq (dT l).D),.e r3,.e o3,.d (dN (dT l).k (CI l) (dT l).U:aB)])
 j:ev 12=ah (.e o)
 s:σ[o]?=ah (.a ((dT l).Yp.d oV))
 r:ev 13=ah (.d ((dT l).N:aB))
 b:ev 14=ah (.f [BW (dT l).k,.c (pT (dT l).k)])
theorem QY (q:Q (.d (a+b)) σ):Lj .a (.d a) (.d b) σ Q:=q
theorem ac1 (a b c:aB):(a:aU)+(b:aU)+(c:aU)=((c+b+a:aB):aU):=aW gc ((cv (a+b) c).b ((aW (c+·) (cv a b)).b (bW c b a).h))
theorem Qp (a b c:ao (aJ aU))(x y z:aU):a.d oV++b.d oV++c.d oV++[.d x,.d y,.d z]=(a++(b++(c++[x,y,z].d ah))).d oV:=by
 refine aA cw ?_;rw [cw,cw,← ag,← ag];rfl
theorem V1 (h:ey T C b ev σ (λv a=>di T C pJ (bu ev i v) a QQ XX) (XX ev)):di T C (.a (.rA i b) pJ) ev σ QQ XX:=by
 unfold pJ at h ⊢;exact h
theorem Qh (K:w4 T D)(b:∀{P:QV},P (.d (k:aB)) σ->ey T C a ev σ P X)(q:QQ (.f [BW k,.c (pT k)]) σ):ey T C (.l (.g 5) (.r .f (.a a (.a (.d 1) .b)))) ev σ QQ X:=by
 refine b8 K.F (b ?_);revert b q;refine C5 k ?_ λk=>?_
 ·intro b q;exact q
 ·intro b q;have e:jd (((k+1:aB):aU)) 1=1:=gi (cy.i (aF 1 k));show atW _ (.d (jd (((k+1:aB):aU)) 1)) _;refine aA e ?_;exact q
theorem VO (K:w4 T D)(h24:24<=l.a)(H:E2 l ev σ r1 o1 r2 o2 r3 o3)(q:∀ev' σ' o,E3 l ev' σ' r1 o1 r2 o2 r3 o3 o->di T C pJ ev' σ' QQ XX):di T C yb ev σ QQ XX:=by
 have kp:=Pr.RK (uj l);have l3:(dT l).Y.a<=18:=Gp _ _ _;have ll:(dT l).l3.a=(dT l).z+3:=(Nu _ _ _).b (aW (·+2) kp.c);refine cE (f7 (f7 (f7 (eT (j:=3) H.h af af (eT (j:=3) H.i af af ?_)))));refine bk H.o (bk H.r ⟨?_,?_⟩)
 ·rw [ay,ay];exact ab (aL kp.a kp.b) (aa af)
 refine eT (j:=3) H.a af af (bk bO (bk (cI H.s) ⟨?_,?_⟩))
 ·refine aA ai ?_;rw [ay,ay,ay];exact ab (aL (aL kp.a kp.b) l3) (aa af)
 refine aH H.b (aH H.e (AK (i:=(dT l).z+2) (cI (cI H.j)) (by refine aA ll ?_;exact cA _) ?_));refine aH H.b (AK (i:=0) (cI (cI H.j)) (by refine aA ll ?_;exact cp _) ?_);refine aH H.b (AK (i:=1) (cI (cI H.j)) (by refine aA ll ?_;exact bL (cp _)) (aH H.m ?_));refine bk (cI bO) (bk bO ⟨?_,?_⟩)
 ·refine aA ai ?_;rw [ai,ay,ay,ay];exact ab (aj (aL (aL kp.a kp.b) l3) 3) (aa af)
 rw [Qp];refine cE (f7 (f7 (eT (e:=bu ev 12 _) (i:=8) (j:=4) H.h af af (eT (e:=bu ev 12 _) (i:=9) (j:=4) H.i af af (eT (e:=bu ev 12 _) (i:=10) (j:=4) H.a af af ?_)))));refine QY ?_;rw [ac1];refine V1 (Qh K (k:=(dT l).k) (λp=>yV (ev:=bu (bu ev 12 _) 13 _) (i:=7) (c:=4) H.c (aS (aa af) h24) (aa af) (aa af) p) ?_);exact q _ _ _ ⟨((H.toE1.d (aa af)).d (aa af)).d (aa af),H.h,H.i,H.a,af,bO,af,af⟩
end
section
variable {T:dt}{D:aB->aJ cO}{C:fk}{n:aB}{σ:a8}{X:QX}{l:ao aU}{ev:Ev}{P:Pr}
theorem vw (q:Q .h σ):ey T C .y ev σ Q X:=q
theorem S4 (q:Q (.d i) σ):ey T C (.d i) ev σ Q X:=q
theorem Ti (h:ev 2=ah (.d (z+1:aB)))(q:Q (.d (z:aB)) σ):ey T C (.n .c (.v 2) (.d 1)) ev σ Q X:=by
 refine f7 (jJ h ?_);show Q (.d (((z+1:aB):aU)-1)) σ;exact aA (show ((z+1:aB):aU)-1=(z:aU) from cT (z:aU) 1) q
theorem PH {A B E p:AV}(h2:ev 2=ah (.d (z+1:aB)))(h3:ev 3=ah (.d (m:aB)))(h4:ev 4=ah (.d (n:aB)))(h5:ev 5=ah (.d (big:aB)))(h8:ev 8=ah (.f [A,a1,a2,a3,a4]))(h9:ev 9=ah (.f [B,b1,b2,b3,b4]))(h10:ev 10=ah (.f [E,c1,c2,c3,c4]))(h14:ev 14=ah (.f [p,p1]))
  (q:Q (.f [.c [112,114,111,103,114,97,109],.c [116,57],.f [.c [98,108,111,99,107],.f [.f [.c [120],.h],.f [.c [121],.h],.f [.c [97],.d (z+1:aB)]],.f [p],.f [.f [.c [115,101,116],.c [120],.h,.f [.c [45],.f [.c [105,110,116],.d (m:aB)],.f [.c [105,110,116],.d 2]]],.f [.c [115,101,116],.c [121],.h,.f [.c [105,110,116],.d (n:aB)]],A,B,E,.f [.c [119,114,105,116,101],.f [.c [97,116],.c [97],.f [.c [105,110,116],.d (z:aB)]]],.f [.c [119,114,105,116,101],.f [.c [110,97,109,101],.c [120]]],.f [.c [119,114,105,116,101],.f [.c [43],.f [.c [110,97,109,101],.c [121]],.f [.c [105,110,116],.d (big:aB)]]]]]]) σ):ey T C (.p (.a (.h [112,114,111,103,114,97,109]) (.a (.h [116,57]) (.a (.p (.a (.h [98,108,111,99,107]) (.a (.p (.a (.p (.a (.h [120]) (.a .y .b))) (.a (.p (.a (.h [121]) (.a .y .b))) (.a (.p (.a (.h [97]) (.a (.v 2) .b))) .b)))) (.a (.p (.a (.l (.v 14) (.d 0)) .b)) (.a (.p (.a (.p (.a (.h [115,101,116]) (.a (.h [120]) (.a .y (.a (.p (.a (.h [45]) (.a (.p (.a (.h [105,110,116]) (.a (.v 3) .b))) (.a (.p (.a (.h [105,110,116]) (.a (.d 2) .b))) .b)))) .b))))) (.a (.p (.a (.h [115,101,116]) (.a (.h [121]) (.a .y (.a (.p (.a (.h [105,110,116]) (.a (.v 4) .b))) .b))))) (.a (.l (.v 8) (.d 0)) (.a (.l (.v 9) (.d 0)) (.a (.l (.v 10) (.d 0)) (.a (.p (.a (.h [119,114,105,116,101]) (.a (.p (.a (.h [97,116]) (.a (.h [97]) (.a (.p (.a (.h [105,110,116]) (.a (.n .c (.v 2) (.d 1)) .b))) .b)))) .b))) (.a (.p (.a (.h [119,114,105,116,101]) (.a (.p (.a (.h [110,97,109,101]) (.a (.h [120]) .b))) .b))) (.a (.p (.a (.h [119,114,105,116,101]) (.a (.p (.a (.h [43]) (.a (.p (.a (.h [110,97,109,101]) (.a (.h [121]) .b))) (.a (.p (.a (.h [105,110,116]) (.a (.v 5) .b))) .b)))) .b))) .b))))))))) .b))))) .b)))) ev σ Q X:=
 (λp=>ej (bI du (bI du (bI (λp=>ej (bI du (bI (λp=>ej (bI (λp=>ej (bI du (bI vw (eO p)))) (bI (λp=>ej (bI du (bI vw (eO p)))) (bI (λp=>ej (bI du (bI (λp=>jJ h2 p) (eO p)))) (eO p))))) (bI (λp=>ej (bI (λp=>eT (j:=0) h14 af af p) (eO p))) (bI (λp=>ej (bI (λp=>ej (bI du (bI du (bI vw (bI (λp=>ej (bI du (bI (λp=>ej (bI du (bI (λp=>jJ h3 p) (eO p)))) (bI (λp=>ej (bI du (bI S4 (eO p)))) (eO p))))) (eO p)))))) (bI (λp=>ej (bI du (bI du (bI vw (bI (λp=>ej (bI du (bI (λp=>jJ h4 p) (eO p)))) (eO p)))))) (bI (λp=>eT (j:=0) h8 af af p) (bI (λp=>eT (j:=0) h9 af af p) (bI (λp=>eT (j:=0) h10 af af p) (bI (λp=>ej (bI du (bI (λp=>ej (bI du (bI du (bI (λp=>ej (bI du (bI (λp=>Ti h2 p) (eO p)))) (eO p))))) (eO p)))) (bI (λp=>ej (bI du (bI (λp=>ej (bI du (bI du (eO p)))) (eO p)))) (bI (λp=>ej (bI du (bI (λp=>ej (bI du (bI (λp=>ej (bI du (bI du (eO p)))) (bI (λp=>ej (bI du (bI (λp=>jJ h5 p) (eO p)))) (eO p))))) (eO p)))) (eO p)))))))))) (eO p)))))) (eO p))))) q
theorem aaq (k:aB):(qq k).k=[BW k]:=by cases k<;>rfl
theorem Hd:kB (t9,P.bl)=.f [.c [112,114,111,103,114,97,109],.c [116,57],.f [.c [98,108,111,99,107],.f [.f [.c [120],.h],.f [.c [121],.h],.f [.c [97],.d (P.z+1:aB)]],.f [BW P.k],.f (P.J P.tl).w2]]:=by
 show AV.f [.c kA,.c t9,.f [.c yN,.f ((HD (P.z+1)).d Au),.f (qq P.k).k,.f (P.J P.tl).w2]]=_;rw [aaq];rfl
theorem ZV {XX:XS}(H:E3 l ev σ c f b e a d o)(q:di T C (dj 1 pJ) (bu ev 15 (kB (t9,(dT l).bl))) σ QQ XX):di T C pJ ev σ QQ XX:=by
 rw [Hd] at q;exact cE (PH H.e H.g H.k H.m H.h H.i H.a H.b q)
end
noncomputable def uA (m n:aB)(c f e:Tx)(z big:aB):ao Tx:=[[120,32,58,61,32]++cU m++[32,45,32,50],[121,32,58,61,32]++cU n,c,f,e,FV++cU z++[93,41],tX,VM++cU big++[41]]
theorem V8:∀m:aB,m<6->fq (s1 m)=[120,32,58,61,32]++cU m++[32,45,32,50]:=by decide +kernel
theorem QH (b:m<6)(a:z<3)(n:aB)(c f e:Tx)(big:aB):fA++cU ((z+1:aB):aU)++fB++pT k++fC++eN [59,32] (uA m n c f e z big)++fD=JE [] tX (49+z) k (fq (s1 m)) (fq (s2 n)) c f e z (cU big):=by
 refine aA (V8 m b) (aA (ug z a).1 ?_);unfold uA JE wA;refine aA (ug z a).2 ?_;show _=fA++((49+z)::(fB++(pT k++(fC++(([120,32,58,61,32]++cU m++[32,45,32,50])++59::32::(([121,32,58,61,32]++cU n)++59::32::(c++59::32::(f++59::32::(e++59::32::((FV++[48+z,93,41])++59::32::(tX++59::32::(VM++(cU big++41::fD)))))))))))));simp only [eN,ag,eF,d9]
theorem NC (h:m<6)(g:n<5)(a:z<3)(l:big<10 ^ 20)(k:c.a<=255)(i:f.a<=255)(j:e.a<=40):(((uA m n c f e z big).d cC).sum<=620)/\(eN [59,32] (uA m n c f e z big)).a<=640:=by
 have d:∀n:aB,n<6->(cU (n:aU)).a=1:=by decide +kernel
 have b:=uy l;unfold uA;constructor
 ·simp only [je,qy,fX,List.sum_nil,ai,d m h,d n (bb g),d z (cH a (by decide))];exact ab (ar (ar (aL k (aL i (aL j (ar (ar (az (ar b 10)) 8) 11)))) 6) 10) (by decide)
 ·simp only [eN,ai,d m h,d n (bb g),d z (cH a (by decide))];exact ab (ar (ar (aL (aj k 2) (aL (aj i 2) (aL (aj j 2) (ar (ar (az (ar b 10)) 10) 13)))) 8) 12) (by decide)
section
variable {T:dt}{D:aB->aJ cO}{C:fk}{σ:a8}{X:QX}{l:ao aU}{ev:Ev}
theorem DK (h:∀{P:QV},P (.d i) σ->ey T C a ev σ P X)(b:i.o<2 ^ 100)(q:Q (.c (cU i)) σ):ey T C (.r .h (.a a .b)) ev σ Q X:=h ⟨b,q⟩
theorem QK (k:∀{P:ao AV->a8->Prop},P [.c a,.c b,.c c,.c d,.c e,.c f,.c g,.c h] σ->lQ T C as ev σ P X)(j:([a,b,c,d,e,f,g,h].d cC).sum<=10000)(q:∀i,jL σ i->Q (.c (eN [59,32] [a,b,c,d,e,f,g,h])) i):ey T C (.t (.h [59,32]) .e (.a (.z as) .b)) ev σ Q X:=
 k (bk bO (l4 _ af (ab (aj j 16) (aa af)) (q _ (jL.ig _).eP)))
theorem vr (f:∀{P:QV},P (.c s) σ->ey T C o ev σ P X)(e:∀{P:QV},P (.c a) σ->ey T C x ev σ P X)(d:∀{P:QV},P (.c b) σ->ey T C y ev σ P X)(i:a≠[])(h:a≠b)(c:s.a<=4000)(g:b.a<=100)(q:Q (.c (ct a b s)) σ):ey T C (.t o .i (.a x (.a y .b))) ev σ Q X:=
 f (e (d (fK i h (ab (aL c (Nat.mul_le_mul (az c) g)) (aa af)) q)))
theorem xn {L:ao (Tx×Tx)}{Q:QV}(e:T.b g=ah (.f (L.d qX)))(k:ev 0=ah (.j (l.d .d)))(a:24<=l.a)(d:i<24)(b:0<c)(j:c<2 ^ 1000)(f:L.a=c)(q:Q (qX (L.l (sN l i c) ([],[]))) σ):ey T C (.l (.g g) (.n .b (.l (.v 0) (.d i)) (.d c))) ev σ Q X:=by
 have h:sN l i c<L.a:=by refine aA f ?_;exact mi l i b
 refine b8 e (yV k (aS d a) b j ?_);refine b8 (jb (by rw [ay];exact h)) (b8 ?_ q);exact cS▸cD▸aA (bV h) af
structure E4 (l:ao aU)(ev:Ev)(σ:a8)(o:aB):Prop extends E1 l ev where
 w:ev 12=ah (.e o)
 y:σ[o]?=ah (.a ((dT l).Yp.d oV))
 u:ev 13=ah (.d ((dT l).N:aB))
 t:ev 15=ah (kB (t9,(dT l).bl))
 r:ev 17=ah (.c (dT l).G)
theorem VL (H:E3 l ev σ r1 o1 r2 o2 r3 o3 o)(q:∀ev' s,E4 l ev' s o->di T C (dj 4 pJ) ev' s QQ XX):di T C pJ ev σ QQ XX:=by
 have d:=uj l;have Y:=B6 l;have V:=NC d.m d.n d.z d.Of (uo (j:=(dT l).H) (q:=(dT l).q) Y.1.toEo' d.f1 d.w) (uo (j:=(dT l).I) (q:=(dT l).q) Y.2.toEo' d.f2 d.w) ((Pr.gD d).g);have y:=Pr.abr d;rw [← QH d.m d.z] at y;have pl:(pT (dT l).k).a<=200:=by
  match (dT l).k with
  |0=>exact aa af
  |k+1=>exact aa af
 have Z:(cU (((dT l).z+1:aB):aU)).a<=1:=by refine aA (ug _ d.z).1 ?_;exact au _
 have L:(fA++cU (((dT l).z+1:aB):aU)++fB++pT (dT l).k++fC++eN [59,32] (uA (dT l).m (dT l).n (lq (dT l).H (dT l).L (dT l).q (dT l).w (CI l)) (lq (dT l).I (dT l).M (dT l).q (dT l).w (HE l)) (fq (dT l).D) (dT l).z (dT l).E)++fD).a<=1000:=ab (cu (cu (cu (cu (cu (cu (au fA.a) Z) (au fB.a)) pl) (au fC.a)) V.2) (au fD.a)) (aa af);have r:∀{t:Tx},t.a<=1000->t.a<=gL:=λh=>ab h (aa af);have A:∀n:aB,n<6->(cU (n:aU)).a<=1/\(n:aU).o<2 ^ 100:=λn M=>⟨aV ((by decide +kernel:∀n:Nat,n<6->(cU (n:Int)).length=1) n M),cH M (aa af)⟩;have I:=A _ d.m;have u:=A _ (bb d.n);have B:=A (dT l).z (cH d.z (aa af));have z:∀{a b c:Tx},a.a<=20->b.a<=20->c.a<=20->(a++b).a<=gL/\(a++b++c).a<=gL:=λO N hc=>⟨ab (cu O N) (aa af),ab (cu (cu O N) hc) (aa af)⟩;have G:=z (a:=[120,32,58,61,32]) (b:=cU (dT l).m) (c:=[32,45,32,50]) (aa af) (ab I.1 (by decide)) (aa af);have F:=z (a:=FV) (b:=cU (dT l).z) (c:=[93,41]) (aa af) (ab B.1 (by decide)) (aa af);have D:=z (a:=VM) (b:=cU (dT l).E) (c:=[41]) (aa af) (uy d.Of) (aa af);refine ZV H ?_;have w:=H.toE1.d (i:=15) (v:=kB (t9,(dT l).bl)) (aa af);refine gd ?_;intro P;refine cE (QK (λp=>bI (λp=>jr (λp=>jr du (λp=>DK (λp=>jJ w.g p) I.2 p) G.1 p) du G.2 p) (bI (λp=>jr du (λp=>DK (λp=>jJ w.k p) u.2 p) (z (a:=[121,32,58,61,32]) (b:=cU (dT l).n) (c:=[]) (aa af) (ab u.1 (by decide)) (aa af)).1 p) (bI (λp=>eT (e:=bu ev 15 _) (i:=8) (j:=1) H.h af af p) (bI (λp=>eT (e:=bu ev 15 _) (i:=9) (j:=1) H.i af af p) (bI (λp=>eT (e:=bu ev 15 _) (i:=10) (j:=1) H.a af af p) (bI (λp=>jr (λp=>jr du (λp=>DK (λp=>Ti w.e p) B.2 p) F.1 p) du F.2 p) (bI du (bI (λp=>jr (λp=>jr du (λp=>DK (λp=>jJ w.m p) (cH d.Of (aa af)) p) D.1 p) du D.2 p) (eO p))))))))) (ab V.1 (aa af)) λf x=>?_);have X:=w.d (i:=16) (v:=.c (eN [59,32] (uA (dT l).m (dT l).n (lq (dT l).H (dT l).L (dT l).q (dT l).w (CI l)) (lq (dT l).I (dT l).M (dT l).q (dT l).w (HE l)) (fq (dT l).D) (dT l).z (dT l).E))) (aa af);refine gd ?_;intro P;refine cE (jr (λp=>jr (λp=>jr (λp=>jr (λp=>jr (λp=>jr du (λp=>DK (λp=>jJ X.e p) (aQ (show (dT l).z+1<=3 from d.z) (aa af)) p) (r (jt (jt (jt (jt (jt L)))))) p) du (r (jt (jt (jt (jt L))))) p) (λp=>eT (e:=bu (bu ev 15 _) 16 _) (i:=14) (j:=1) H.b af af p) (r (jt (jt (jt L)))) p) du (r (jt (jt L))) p) (λp=>jJ (i:=16) af p) (r (jt L)) p) du (r L) ?_);generalize J:fA++cU (((dT l).z+1:aB):aU)++fB++pT (dT l).k++fC++eN [59,32] (uA (dT l).m (dT l).n (lq (dT l).H (dT l).L (dT l).q (dT l).w (CI l)) (lq (dT l).I (dT l).M (dT l).q (dT l).w (HE l)) (fq (dT l).D) (dT l).z (dT l).E)++fD=g at L;have y:ct [32,59] [59] (ct [32,32] [32] g)=(dT l).G:=dw J y;have W:(ct [32,32] [32] g).a<=4000:=ab (t8 (m:=1) (by decide) (aa af) (aa af) _ _ (au _)) (by rw [sD];exact ab L (by decide));have q:=q (bu (bu (bu (bu ev 15 (kB (t9,(dT l).bl))) 16 (.c (eN [59,32] (uA (dT l).m (dT l).n (lq (dT l).H (dT l).L (dT l).q (dT l).w (CI l)) (lq (dT l).I (dT l).M (dT l).q (dT l).w (HE l)) (fq (dT l).D) (dT l).z (dT l).E)))) 17 (.c g)) 17 (.c (dT l).G)) f ⟨(X.d (by decide)).d (by decide),H.j,x.wB H.s,H.r,af,af⟩;rw [← y] at q;rw [← J] at q L W;refine gd ?_;intro P;exact cE (vr (λp=>vr (λp=>jJ (i:=17) af p) du du (by decide) (by decide) (ab L (by decide)) (aa af) p) du du (by decide) (by decide) W (aa af) q)
end
def PL (v:AV)(d:aB):Prop:=xP v v=ah ax/\v.m<=d
def AY (l:ao AV)(d:aB):Prop:=si l l=ah ax/\AV.m.Cz l<=d
theorem PL.le (h:PL v d)(a:d<=d'):PL v d':=⟨h.1,ab h.2 a⟩
theorem AY.qt:AY [] d:=⟨af,bG _⟩
theorem AY.eX (h:PL v d)(t:AY l d):AY (v::l) d:=by
 refine ⟨?_,bj.i ⟨h.2,t.2⟩⟩;show (match xP v v,si l l with
  |some x,ah y=>ah (x&&y)
  |_,_=>aq)=_
 refine aA h.1 (aA t.1 ?_);rfl
theorem AY.CK (h:AY l d):PL (.f l) (d+1):=⟨h.1,az h.2⟩
theorem j6:PL (.c s) d:=⟨aW ah (vk s),bG _⟩
theorem Wh:PL (.d i) d:=⟨aW ah (bF af),bG _⟩
theorem Jo:PL .h d:=⟨af,bG _⟩
theorem ac6:PL (.g b) d:=⟨by cases b<;>rfl,bG _⟩
theorem yZ:∀e:Ex,PL e.d e.q
 |.h n=>(AY.eX j6 (.eX Wh .qt):AY _ 1).CK
 |.g x=>(AY.eX j6 (.eX j6 .qt):AY _ 2).CK
 |.k x e=>(AY.eX j6 (.eX j6 (.eX ((yZ e).le (ab (bh _) (cJ _ _))) .qt)):AY _ (vV 3 (e.q+1))).CK
 |.m e=>(AY.eX j6 (.eX (yZ e) .qt)).CK
 |.l e=>(AY.eX j6 (.eX (yZ e) .qt)).CK
 |.c o a b=>(AY.eX j6 (.eX ((yZ a).le (da _ _)) (.eX ((yZ b).le (cJ _ _)) .qt))).CK
theorem Xi:∀as:ao Ex,AY (as.d Ex.d) (fus as):=by
 intro b
 induction b with
 |nil=>
  exact .qt
 |cons e r a=>
  exact .eX ((yZ e).le (da _ _)) ⟨(a).1,ab (a).2 (cJ _ _)⟩
theorem AY.le (h:AY l d)(a:d<=d'):AY l d':=⟨h.1,ab h.2 a⟩
theorem ZN:∀s:St,PL s.K (2*s.fu)/\AY s.w2 (2*s.fu):=by
 intro s;have o:∀{a b:aB},a<=b->2*a<=2*b:=λh=>bP 2 h;have v:∀a:aB,a<=2*a:=λa=>i4 a (aa af);have f:∀{l:ao AV} {m:aB},AY l (2*m+1)->PL (.f l) (2*(m+1)):=λh=>h.CK;have g:∀{e:Ex} {m:aB},e.q<=m->PL e.d (2*m+1):=fun {e m} h=>(yZ e).le (ab h (b7 (v m)));have k:∀{s:St} {m:aB},PL s.K (2*s.fu)->s.fu<=m->PL s.K (2*m+1):=λh u=>h.le (b7 (o u));have n:∀{s:St} {m:aB},AY s.w2 (2*s.fu)->s.fu<=m->PL (.f s.w2) (2*m+1):=λh u=>(h.le (o u)).CK;have L:=@da;have R:=@cJ
 induction s with
 |iS=>exact ⟨(AY.eX j6 .qt:AY _ 1).CK,.qt⟩
 |U x e=>exact ⟨f (.eX j6 (.eX j6 (.eX Jo (.eX (g (R _ _)) .qt)))),.qt⟩
 |iR x i e=>exact ⟨f (.eX j6 (.eX j6 (.eX (g (ab (bh _) (ab (R _ _) (L _ _)))) (.eX (g (R _ _)) .qt)))),.qt⟩
 |ip x w=>exact ⟨f (.eX j6 (.eX j6 (.eX ((Xi w).le (v _)).CK .qt))),.qt⟩
 |uF c a d=>exact ⟨f (.eX j6 (.eX (g (L _ _)) (.eX (k d.1 (R _ _)) (.eX Jo .qt)))),.qt⟩
 |uE c a b d t=>exact ⟨f (.eX j6 (.eX (g (L _ _)) (.eX (k d.1 (ab (L _ _) (R _ _))) (.eX (k t.1 (ab (R _ _) (R _ _))) .qt)))),.qt⟩
 |wt c a d=>exact ⟨f (.eX j6 (.eX (g (L _ _)) (.eX (k d.1 (R _ _)) .qt))),.qt⟩
 |wu s c j=>exact ⟨f (.eX j6 (.eX (n j.2 (L _ _)) (.eX (g (R _ _)) .qt))),.qt⟩
 |ti x a b y s j=>exact ⟨f (.eX j6 (.eX j6 (.eX (g (ab (L _ _) (R _ _))) (.eX (g (ab (R _ _) (R _ _))) (.eX ac6 (.eX (k j.1 (ab (R _ _) (L _ _))) .qt)))))),.qt⟩
 |vM s j=>exact ⟨f (.eX j6 (.eX (n j.2 (au _)) .qt)),.qt⟩
 |R e=>exact ⟨f (.eX j6 (.eX (g (au _)) .qt)),.qt⟩
 |nh s j=>exact ⟨Jo,.eX j.1 .qt⟩
 |E s r p q=>exact ⟨Jo,.eX (p.1.le (o (L _ _))) (q.2.le (o (R _ _)))⟩
theorem aap (k:aB):PL (BW k) 60:=by
 refine C5 k ?_ λk=>?_
 ·exact ⟨af,aa af⟩
 ·exact ⟨af,aa af⟩
section
variable {P:Pr}
theorem Pr.pl (h:P.F):PL (kB (t9,P.bl)) 64:=by
 refine aA Hd ?_;have x:∀{s:Tx} {a:AV} {d:aB},PL a d->PL (.f [.c s,a]) (d+1):=λh=>(AY.eX j6 (.eX h .qt)).CK;exact (AY.eX j6 (.eX j6 (.eX ((AY.eX j6 (.eX ((AY.eX (x Jo) (.eX (x Jo) (.eX (x Wh) .qt))):AY _ 61).CK (.eX ((AY.eX ((aap P.k).le (aa af)) .qt):AY _ 61).CK (.eX (((ZN (P.J P.tl)).2.le (d':=61) (ab (bP 2 (bj.i ⟨ab (Pr.g1 h).f (by decide),bj.i ⟨ab (Pr.g2 h).f (by decide),bj.i ⟨(Pr.gA h).f,bj.i ⟨(Pr.gB h).f,bj.i ⟨ab (Pr.gD h).f (by decide),aa af⟩⟩⟩⟩⟩)) (aa af))).CK) .qt)))):AY _ 62).CK .qt)):AY _ 63).CK
end
theorem D4:∀i,i<12->(kf.l i ([],[])).1≠[]/\(kf.l i ([],[])).1≠(kf.l i ([],[])).2/\(kf.l i ([],[])).2.a<=100:=by decide +kernel
section
variable {T:dt}{D:aB->aJ cO}{C:fk}{n:aB}{σ:a8}{X:QX}{l:ao aU}{ev:Ev}{QQ:QF}{XX:XS}{o:aB}
theorem E4.s (h:E4 l ev σ o)(a:17<i):E4 l (bu ev i v) σ o:=
 have n:∀{j},j<18->bu ev i v j=ev j:=λb=>dG _ (b5 (aS b a))
 ⟨h.toE1.d (cH (aa af) a),(n (aa af)).b h.w,h.y,(n (aa af)).b h.u,(n (aa af)).b h.t,(n (aa af)).b h.r⟩
theorem E4.z (h:E4 l ev σ o)(x:jL σ a):E4 l ev a o:=⟨h.toE1,h.w,x.wB h.y,h.u,h.t,h.r⟩
structure E5 (l:ao aU)(ev:Ev)(σ:a8)(o:aB):Prop extends E4 l ev σ o where
 A:ev 20=ah (.c (mQ (sN l 6 12) (mQ (sN l 5 12) (dT l).G)))
 E:ev 21=ah (.g aw)
theorem E5.B (h:E5 l ev σ o)(a:21<i):E5 l (bu ev i v) σ o:=
 have n:∀{j},j<22->bu ev i v j=ev j:=λb=>dG _ (b5 (aS b a))
 ⟨h.toE4.s (cH (aa af) a),(n (aa af)).b h.A,(n (aa af)).b h.E⟩
theorem E5.F (h:E5 l ev σ o)(x:jL σ a):E5 l ev a o:=⟨h.toE4.z x,h.A,h.E⟩
theorem V2 (h:ey T C b ev σ (λv a=>di T C Bq (bu ev i v) a QQ XX) (XX ev)):di T C (.a (.rA i b) Bq) ev σ QQ XX:=by
 unfold Bq at h ⊢;exact h
theorem Xv (q:Q (.g b) σ):ey T C (.A b) ev σ Q X:=q
theorem Qz (K:w4 T D)(e:24<=l.a)(H:E4 l ev σ o)(q:∀ev',E5 l ev' σ o->di T C (dj 3 Bq) ev' σ QQ XX):di T C (dj 4 pJ) ev σ QQ XX:=by
 have f:=mi l 5 (c:=12) (by decide);have a:=D4 _ f;have b:=D4 _ (mi l 6 (c:=12) (by decide));have d:=Pr.len (uj l);refine V2 (xn K.B H.c e (aa af) (by decide) (by decide) af ?_);refine cE (xn (ev:=bu ev 18 _) K.B (H.s (by decide)).c e (aa af) (by decide) (by decide) af ?_);refine cE (vr (λp=>vr (λp=>jJ (ev:=bu (bu ev 18 _) 19 _) (i:=17) H.r p) (λp=>eT (i:=18) (j:=0) af af af p) (λp=>eT (i:=18) (j:=1) af af af p) a.1 a.2.1 (ab d (aa af)) a.2.2 p) (λp=>eT (i:=19) (j:=0) af af af p) (λp=>eT (i:=19) (j:=1) af af af p) b.1 b.2.1 (ab (BR f _) (ab (bP 3 d) (aa af))) b.2.2 ?_);refine cE (Xv ?_);exact q _ ⟨(((H.s (by decide)).s (aa af)).s (aa af)).s (aa af),af,af⟩
end
noncomputable def Lw:Tx:=[114,101,102,117,115,101,100]
noncomputable def yB (res:aJ (ao aU)):AV:=match res with
 |some a=>.f (a.d .d)
 |aq=>.c Lw
theorem uD:∀(l:ao (aJ aU)) (vs:ao aU),lS l=ah vs->l.d oV=vs.d .d/\iz (l.d oV)=ah aw
 |[],vs,h=>by injection h with h;subst h;exact ⟨af,af⟩
 |aq::_,_,h=>by injection h
 |some v::r,vs,h=>by
  have h:(lS r).d (v::·)=ah vs:=h;refine gl ?_;intro b;cases a:lS r with
  |none=>have h:=a▸h;injection h
  |some w=>
   have h:=a▸h;injection h with h;subst h;have i:=uD r w a;exact ⟨aW (AV.d v::·) i.1,i.2⟩
theorem uh:∀l:ao (aJ aU),∃b,iz (l.d oV)=ah b
 |[]=>⟨aw,af⟩
 |aq::r=>by
  obtain ⟨b,h⟩:=uh r;exact ⟨ax,by show (iz (r.d oV)).d _=_;exact aA h af⟩
 |some v::r=>uh r
theorem Ew:∀l:ao (aJ aU),lS l=aq->iz (l.d oV)=ah ax
 |[],h=>by injection h
 |aq::r,_=>by
  obtain ⟨b,h⟩:=uh r;show (iz (r.d oV)).d _=_;exact aA h af
 |some v::r,h=>by
  have h:(lS r).d (v::·)=aq:=h;refine gl ?_;intro c;cases a:lS r with
  |none=>exact Ew r a
  |some w=>have h:=a▸h;injection h
theorem QU:∀vs:ao aU,AY (vs.d .d) 1:=by
 intro b
 induction b with
 |nil=>
  exact .qt
 |cons _ r a=>
  exact .eX Wh (a)
theorem BG (res:aJ (ao aU)):PL (yB res) 100:=by
 cases res with
 |none=>exact j6
 |some a=>exact (QU a).CK.le (aa af)
theorem JC:∀vs:ao aU,DA (vs.d .d)=ax:=by
 intro b
 induction b with
 |nil=>
  exact af
 |cons _ r a=>
  exact a
section
variable {T:dt}{D:aB->aJ cO}{C:fk}{n:aB}{σ:a8}{X:QX}{l:ao aU}{ev:Ev}{QQ:QF}{XX:XS}{o:aB}
theorem vx (h:PL v 100)(q:P aw):FH .d v v σ P:=b8 h.1 (q6 (ml h.2) q)
theorem MY (h:ey T C c ev σ (λd b=>v8 d (di T C a ev b (Cr T C s q QQ XX) XX) (di T C (.a s q) ev b QQ XX)) (XX ev)):di T C (.a (.vj c a .b) (.a s q)) ev σ QQ XX:=h
theorem s6 (h:ey T C a ev σ (λf d=>ey T C b ev d (λe c=>FH g f e c λr=>Q (.g r) c) X) X):ey T C (.q g a b) ev σ Q X:=h
theorem BN (K:w4 T D)(c:130<=n)(f:i<13)(d:ev k=ah (kB (t9,(dT l).RM i)))(e:ev j=ah (.c ((dT l).Z i)))(g:∀b,jL σ b->di T (bp T D n) (.a s q) ev b QQ XX):di T (bp T D n) (.a (.vj (.q .d (.u 32 (.a (.v k) .b)) (.v j)) a .b) (.a s q)) ev σ QQ XX:=
 MY (s6 (eu (bI (λp=>jJ d p) (eO ⟨K.a 32 af af,Pr.RJ K.toShw (uj l) f (ab (aa af) c) λb x=>jJ e (vx j6 (g b x))⟩))))
theorem Ep (K:w4 T D)(d:130<=n)(h:Yr (λ_:ao In=>.g ax) (rj b) σ Q X):bp T D n 33 [kB (x,b)] σ Q X:=by
 refine oE d λn d=>?_;refine bU K.s af ?_;intro i g f e;refine ⟨K.b 22 af af,xv K.toCore (ab (aa af) d) ?_⟩;revert h;cases rj b with
 |e c=>exact λh a x=>h a x
 |i=>exact λh=>h
 |j=>exact λh=>h
theorem aaL (K:w4 T D)(f:130<=n)(H:E5 l ev σ o)(m:∀ev σ,QQ (.b (.g ax)) ev σ):di T (bp T D n) Uo ev σ QQ XX:=by
 have e:=uj l;refine l8 (Pr.run e) λg j z z=>?_;refine cE (eu (bI (λp=>jJ H.A p) (eO ⟨K.b 13 af af,ue K.toCore (ab (aa af) f) ?_⟩)));refine aA (Pr.H7 e (mi l 5 (c:=12) (by decide)) (mi l 6 (c:=12) (by decide))) ?_;intro d h;have H:=(H.F h).B (i:=22) (v:=kB (t9,(dT l).bl)) (aa af);refine gd ?_;intro s;refine MY (s6 (jJ (ev:=bu ev 22 _) (i:=22) af (jJ H.t (vx ((Pr.pl e).le (aa af)) ?_))));refine BN K f (i:=12) (k:=22) (aa af) af (aA Pr.t12 H.r) λb r=>(MY (s6 (eu (bI (λp=>jJ (ev:=bu ev 22 _) (i:=22) af p) (eO ⟨K.a 33 af af,Ep K f ?_⟩)))));exact j▸λa q=>m _ _
end
theorem Xn (k:aB)(e:Ee)(c:Cs):1<=dN k e c:=by
 refine C5 k ?_ λk=>?_
 ·exact aF 1 _
 ·show 1<=(match lR (k+1) e c with
   |true=>1
   |false=>3*(lV (d8 e.l e.n c)).a)
  cases lR (k+1) e c with
  |true=>exact au _
  |false=>
   show 1<=3*(lV (d8 e.l e.n c)).a;unfold lV;rw [yW];exact ab (aF 1 _) (i4 _ (aa af))
theorem Na {N s:aB}(c:1<=N)(b:s<3):jd (N:aU) 15+(s:aU)-1=((jd N 15+s-1:aB):aU)/\jd N 15+s-1<17:=by
 have h:1<=jd N 15:=Nat.le_min.i ⟨c,by decide⟩;have e:jd (N:aU) 15=((jd N 15:aB):aU):=by
  rcases EX N 15 with h|h
  ·refine aA (zG h) ?_;exact eW (cy.i h)
  ·refine aA (qj h) ?_;exact gi (cy.i h)
 refine aA e ?_;have a:jd N 15<=15:=gh N 15;generalize jd N 15=M at h a;obtain ⟨k,rfl⟩:=Nat.exists_eq_add_of_le' h;rw [bo,Nat.add_sub_cancel];refine ⟨?_,Nat.add_lt_add_of_le_of_lt (aY a) b⟩;show (k:aU)+1+(s:aU)-1=(k:aU)+(s:aU);rw [Int.add_right_comm,cT]
theorem Qb {P:Pr}(h:P.F)(N F:aB)(vs:ao aU)(e:HY N F (lS P.Yp)=ah vs):vs.a<=1000:=by
 have a:=Pr.RK h;unfold HY at e;revert e;cases bM N F with
 |false=>intro e;injection e
 |true=>
  intro e;have m:=aW cC (uD _ vs e).1;rw [ay,ay] at m;refine dw m ?_;unfold Pr.Yp;refine aA ai (aA ai (aA ai ?_));exact ab (aL a.a (aL a.b (aL (Gp _ _ _) (au 3)))) (aa af)
section
variable {T:dt}{D:aB->aJ cO}{C:fk}{n:aB}{σ:a8}{X:QX}{l:ao aU}{ev:Ev}{QQ:QF}{XX:XS}{o:aB}
theorem aax (d:∀{P:QV},P (.d i) σ->ey T C a ev σ P X)(c:∀{P:QV},P (.d j) σ->ey T C b ev σ P X)(q:Q (.d (jd i j)) σ):ey T C (.r .f (.a a (.a b .b))) ev σ Q X:=d (c q)
theorem VK (b:ev k=ah (.e o))(a:σ[o]?=ah (.a L))(q:Q (.f L) σ):ey T C (.r .b (.a (.v k) .b)) ev σ Q X:=aH b (bk a q)
theorem abl (d:ev 12=ah (.e o))(e:σ[o]?=ah (.a L))(f:iz L=ah b)(c:ev 13=ah (.d N))(a:ev 25=ah (.d F))(q:Q (.g (b||decide (N>F))) σ):ey T C (.I (.a (.q .e .y (.v 12)) (.a (.q .b (.v 13) (.v 25)) .b))) ev σ Q X:=by
 refine aH d (bk e (b8 f ?_));refine fE (b:=b) (λh=>?_) λh=>?_
 ·rw [h] at q;exact q
 ·rw [h] at q;exact aH c (aH a q)
theorem VA (e:ev 12=ah (.e o))(k:σ[o]?=ah (.a (L.d oV)))(j:ev 13=ah (.d (N:aB)))(i:ev 25=ah (.d (F:aB)))(q:∀v,v=yB (HY N F (lS L))->di T C (.a s a) (bu ev 26 v) σ QQ XX):di T C (.a (.rA 26 (.r .b (.a (.v 12) .b))) (.a (.vj (.I (.a (.q .e .y (.v 12)) (.a (.q .b (.v 13) (.v 25)) .b))) (.a (.rA 26 (.h [114,101,102,117,115,101,100])) .b) .b) (.a s a))) ev σ QQ XX:=by
 obtain ⟨b,d⟩:=uh L;refine cE (VK e k ?_);refine AN (λp=>abl (ev:=bu ev 26 _) e k d j i p) (λh=>?_) λh=>?_
 ·have q:=q (.c Lw) (by
   cases c:b with
   |true=>
    cases f:lS L with
    |none=>rw [y6];rfl
    |some g=>have z:=(uD L g f).2;rw [d,c] at z;injection z with z;injection z
   |false=>
    rw [c] at h;have h:((N:aU)>(F:aU)):=aX h;unfold HY;refine aA (show bM N F=aw from b6.i λz=>eg (aa z) (cM.g h)) ?_;rfl)
  have q:=(show bu (bu ev 26 (.f (L.d oV))) 26 (.c Lw)=bu ev 26 (.c Lw) from BJ)▸q;exact q
 ·cases c:b with
  |true=>have h:=c▸h;injection h
  |false=>
   rw [c] at h;have h:¬ ((N:aU)>(F:aU)):=cV h;refine q _ ?_;unfold HY;refine aA (show bM N F=ax from cK (iJ λz=>h (cM.i z))) ?_;cases f:lS L with
   |none=>have d:=Ew L f▸c▸d;injection d with d;injection d
   |some g=>exact aW AV.f (uD L g f).1
theorem WX (K:w4 T D)(c:ev k=ah (.f L))(g:di T C (.a s q) ev σ QQ XX):di T C (.a (.vj (.G (.q .g (.r .g (.a (.v k) .b)) (.g 9))) a .b) (.a s q)) ev σ QQ XX:=by
 refine AN (b:=!("tuple"=="tuple")) (λp=>?_) (λh=>?_) λz=>g
 ·exact aH c (b8 K.I p)
 ·rw [kh] at h;injection h
theorem WC (b:ev k=ah (.f ((d++[In.e]).d In.b)))(q:Q (.f [.c Xa]) σ):ey T C (.l (.v k) (.M (.d 1))) ev σ Q X:=by
 have e:((d++[In.e]).d In.b).a=d.a+1:=by rw [ay];refine aA ai ?_;rfl
 refine aH b (b8 (a:=d.a) (aA e Cg) (b8 ?_ q));refine aA cw ?_;rw [dH (by rw [ay];exact au _),ay,k9];rfl
theorem LM (e:ev i1=ah j)(d:ev i2=ah g)(c:T.a f=aq)(h:∀{Q:QV} {X:QX},RSp res σ Q X->C f [j,g] σ Q X)(q:∀b,di T C (.a s a) (bu ev i (yB res)) b QQ XX):di T C (.a (.yv (.a (.rA i (.u f (.a (.v i1) (.a (.v i2) .b)))) .b) i (.h [114,101,102,117,115,101,100])) (.a s a)) ev σ QQ XX:=by
 refine aH e (aH d ⟨c,h ?_⟩);cases res with
 |some k=>exact λb z=>q b
 |none=>exact λb=>q b
theorem adj (h:ey T C c ev σ (λd b=>v8 d (di T C a ev b QQ XX) (QQ .a ev b)) (XX ev)):di T C (.a (.vj c a .b) .b) ev σ QQ XX:=h
theorem ZD (K:w4 T D)(r:24<=l.a)(e:130<=n)(H:E5 l ev σ o)(B:∀ev σ res,(∀vs,res=ah vs->vs.a<=1000)->ev 26=ah (yB res)->ev 28=ah (yB res)->ev 29=ah (yB res)->QQ .a ev σ):di T (bp T D n) Um ev σ QQ XX:=by
 have q:=uj l;have z:=mi l 5 (c:=12) (by decide);have y:=Na (N:=(dT l).N) (s:=sN l 8 3) (ab (Xn _ _ _) (ab (ak _ _) (ak _ _))) (mi l 8 (by decide));refine l8 (Pr.run q) λb x t a=>?_;obtain ⟨d,A⟩:=t;refine cE (f7 (f7 (aax (λp=>jJ H.u p) S4 (yV (i:=8) (c:=3) H.c (aS (aa af) r) (by decide) (aa af) ?_))));show di T (bp T D n) _ (bu ev 25 (.d (jd ((dT l).N:aU) 15+(sN l 8 3:aU)-1))) σ QQ XX;refine aA y.1 ?_;have a:=a _ y.2;generalize jd (dT l).N 15+sN l 8 3-1=F at a;have H:=H.B (i:=25) (v:=.d (F:aB)) (aa af);refine VA (ev:=bu ev 25 _) H.w H.y H.u af λv w=>?_;have a:A2 b ⟨[0,0,0],0,0,[],F⟩ (HY (dT l).N F (lS (dT l).Yp)):=a;have u:=Qb q (dT l).N F;generalize HY (dT l).N F (lS (dT l).Yp)=res at a w u;subst w;have H:=H.B (i:=26) (v:=yB res) (aa af);refine gd ?_;intro I;refine BN K e (i:=12) (k:=15) (aa af) H.t (aA Pr.t12 H.r) λm G=>(cE (eu (bI (λp=>jJ H.t p) (eO ⟨K.b 22 af af,xv K.toCore (ab (aa af) e) ?_⟩))));refine aA x ?_;subst A;intro j C;refine WX K (ev:=bu (bu (bu ev 25 _) 26 _) 27 _) (k:=27) af (MY (s6 (WC (ev:=bu (bu (bu ev 25 _) 26 _) 27 _) (k:=27) (d:=d) af (ej (bI du (eO (vx (v:=.f [.c Xa]) ((AY.eX j6 .qt:AY _ 1).CK.le (aa af)) ?_)))))));refine cE (vw ?_);refine LM (ev:=bu (bu (bu (bu ev 25 _) 26 _) 27 _) 28 _) (i1:=27) (i2:=25) af af (K.b 25 af af) (λh=>Ma K.toCore (ab (aa af) e) a h) λg=>(MY (s6 (jJ (ev:=bu (bu (bu (bu (bu ev 25 _) 26 _) 27 _) 28 _) 28 _) (i:=28) af (jJ (i:=26) af (vx (BG _) ?_)))));refine cE (vw ?_);refine LM (ev:=bu (bu (bu (bu (bu (bu ev 25 _) 26 _) 27 _) 28 _) 28 _) 29 _) (i1:=20) (i2:=25) H.A af (K.b 26 af af) (λh=>Q6 K.toCore e (.a (Pr.H7 q z (mi l 6 (c:=12) (by decide))) x a) h) λf=>(adj (s6 (jJ (ev:=bu (bu (bu (bu (bu (bu (bu ev 25 _) 26 _) 27 _) 28 _) 28 _) 29 _) 29 _) (i:=29) af (jJ (i:=26) af (vx (BG _) ?_)))));exact B _ _ res u af af af
end
theorem Jl {x:aB}{a b:Tx}:∀(u w:Tx),(∀c∈u,aM x c=aw)->ct (x::a) b (u++w)=u++ct (x::a) b w:=by
 intro f
 induction f with
 |nil=>
  intro _ _;exact af
 |cons c u e=>
  intro w h;exact (iW (by show (aM x c&&_)=aw;refine aA (h c (.head _)) ?_;rfl)).b (aW (c::·) (e w λd g=>h d (.R _ g)))
structure XO (a:Tx):Prop where
 c:∃x r,a=x::r/\gP x=ax
 b:d0 91 a=aw/\d0 93 a=aw/\d0 43 a=aw/\d0 42 a=aw/\d0 44 a=aw
 d:Og a
theorem mj:XO tX:=⟨fF _ _ af af,lP af af af af af,nox⟩
theorem Ni:XO aO:=⟨fF _ _ af af,lP af af af af af,noi⟩
theorem Nh:XO aP:=⟨fF _ _ af af,lP af af af af af,nop⟩
theorem Tc:XO aE:=⟨fF _ _ af af,lP af af af af af,noe⟩
theorem Ta:∀i,i<12->XO (qR.l i ([],[])).1/\XO (nL.l i ([],[])).1
 |0,_=>⟨mj,Nh⟩
 |1,_=>⟨mj,Nh⟩
 |2,_=>⟨mj,Nh⟩
 |3,_=>⟨mj,Tc⟩
 |4,_=>⟨mj,Tc⟩
 |5,_=>⟨mj,mj⟩
 |6,_=>⟨mj,mj⟩
 |7,_=>⟨mj,mj⟩
 |8,_=>⟨mj,mj⟩
 |9,_=>⟨Ni,mj⟩
 |10,_=>⟨Ni,mj⟩
 |11,_=>⟨Ni,mj⟩
 |_+12,h=>bZ h (eg (aF _ _))
section
variable {P:Pr}
theorem Pr.far (h:P.F)(f:XO a):ct a b P.G=T7 (ct a b rH) (49+P.z) (ct a b (wo P.k)) (hC P.k) (n1 P.O) (ct a b Ea) (32::cU P.E) (ct a b oU):=by
 have t:d0 (hC P.k) a=aw:=by
  match P.k with
  |0=>exact f.b.2.2.2.1
  |k+1=>exact f.b.2.2.2.2
 have j:a≠[]:=λq=>by
  refine l6 f.c λx r e z=>?_;have e:=q▸e;injection e
 have k:∀{c:aB},d0 c a=aw->∀u v,ct a b (u++c::v)=ct a b u++c::ct a b v:=λd u v=>jU j d u 0 (bG _);have g:ct a b (n1 P.O)=n1 P.O:=by
  have m:=Ho f.d (b:=b) _ _ _ (Pr.NX h);rw [k f.b.2.1] at m;exact List.append_cancel_right m
 have i:=fun {u:Tx} (w:Tx) (o:∀c∈u,gP c=aw)=>show ct a b (u++w)=u++ct a b w by
  refine l6 f.c λx r e n=>?_;refine aA e ?_;exact Jl u w λc d=>b6.i λq=>by
   have:=o c d;rw [← aD q,n] at this;injection this
 have p:ct a b [49+P.z]=[49+P.z]:=by
  have l:gP (49+P.z)=aw:=by
   match P.z,h.z with
   |0,_=>rfl
   |1,_=>rfl
   |2,_=>rfl
  have:=i (u:=[49+P.z]) [] (λc d=>by cases d with|head=>exact l|tail _ q=>cases q);exact this
 have s:ct a b ((32::cU P.E)++41::oU)=(32::cU P.E)++41::ct a b oU:=by
  refine (i (u:=32::cU P.E) (41::oU) λc d=>?_).b (aW ((32::cU P.E)++·) (i (u:=[41]) oU (λc d=>by cases d with|head=>rfl|tail _ q=>cases q)));cases d with
  |head=>rfl
  |tail _ q=>exact (Gm (xu q)).2.2
 unfold Pr.G T7;rw [k f.b.1,k f.b.2.1,k t,k f.b.2.1,k f.b.2.2.1,p,g,s]
end
noncomputable def acW:Tx×aJ aB->ao cQ
 |(x,aq)=>[.b x,.a [58],.a qQ,.a [59]]
 |(x,ah n)=>[.b x,.a [58],.a yD,.a [91],.c n,.a [93],.a wOf,.a qQ,.a [59]]
noncomputable def ZK (i k:aB):ao cQ:=(LP k aw).K 3++((JQ i).kJ acW++(LP k aw).m 3)
noncomputable def tYw:ao cQ:=[.a [59],.a iN,.a [40],.b nY,.a [43]]
noncomputable def t3X (i:aB):ao cQ:=[.a [41],.a [59]]++(fG (zU i)++tYw)
noncomputable def Ny (i:aB)(T:Tx):Tx:=ct (qR.l i ([],[])).1 (qR.l i ([],[])).2 T
theorem ZH:oB (λi=>bT (Ny i rH) rH&&(bT (Ny i (wo 0)) (gV i 0)&&(bT (Ny i (wo 1)) (gV i 1)&&(bT (Ny i Ea) (gS i)&&(bT (Ny i oU) oU&&(zY (gV i 0++[42]) (ZK i 0)&&(zY (gV i 1++[44]) (ZK i 1)&&zY (gS i++[43]) (t3X i)))))))) 12=ax:=by decide +kernel
theorem BS:zY (rH++[91]) (Yh aw)=ax/\zY oU LQ=ax:=by decide +kernel
structure Un (i:aB):Prop where
 a:∀z k rest,mT (Yh aw++([.c (z+1),.a [93]]++(ZK i k++(SD k++rest))))=aft (HD (z+1)++JQ i) k rest
 c:∀r,dy dS (fG (zU i)++.a [59]::r)=.e (zU i,.a [59]::r)
 b:∀z k row,(AG [mS (z+1) k] row=ax->AG [mS (z+1) k] (zU i)=ax)->kG [] 0 [] (.e (HD (z+1)++JQ i) (qq k) row)=.i
theorem BK (c:JQ i=[])(st:∀r,dy dS (fG (zU i)++.a [59]::r)=.e (zU i,.a [59]::r))(f:∀z,AG [mS (z+1) 0] (zU i)=aw)(e:∀z k,AG [mS (z+1) (k+1)] (zU i)=aw):Un i:=by
 refine ⟨λz k b=>?_,st,λz k a h=>?_⟩
 ·unfold ZK;refine aA c ?_;refine CD ?_ (Cm z b k aw aw);refine aA List.flatMap_nil ?_;rw [d9,ru]
 ·refine aA c ?_;have s:=AJ z k a;refine gl ?_;intro g;cases d:AG [mS (z+1) k] a with
  |true=>
   have h:=h d
   match k with
   |0=>rw [f] at h;injection h
   |k+1=>rw [e] at h;injection h
  |false=>rw [d] at s;exact s
theorem LH:∀i,i<12->Un i
 |0,_=>BK af (λy=>af) (λy=>af) λy y=>af
 |1,_=>BK af (λy=>af) (λy=>af) λy y=>af
 |2,_=>BK af (λy=>af) (λy=>af) λy y=>af
 |3,_=>BK af (λy=>af) (λy=>af) λy y=>af
 |4,_=>BK af (λy=>af) (λy=>af) λy y=>af
 |5,_=>BK af (λy=>af) (λy=>af) λy y=>af
 |6,_=>BK af (λy=>af) (λy=>af) λy y=>af
 |7,_=>BK af (λy=>af) (λy=>af) λy y=>af
 |8,_=>BK af (λy=>af) (λy=>af) λy y=>af
 |9,_=>⟨λz k a=>by cases k<;>rfl,λy=>af,λz k b y=>by cases k<;>rfl⟩
 |10,_=>⟨λz k a=>by cases k<;>rfl,λy=>af,λz k b y=>by cases k<;>rfl⟩
 |11,_=>⟨λz k a=>by cases k<;>rfl,λy=>af,λz k b y=>by cases k<;>rfl⟩
 |_+12,h=>bZ h (eg (aF _ _))
theorem PK (u:Un i)(z big:aB):iu (dy dS) 396 (.a [59]::(tA z++(t3X i++([.c big,.a [41]]++(LQ++[.e])))))=.e ([.R (.k nA (.h z)),zU i,.R (.c hK (.g nY) (.h big))],[.a iQ,.a [46],.e]):=by
 have e:t3X i++([.c big,.a [41]]++(LQ++[.e]))=.a [41]::.a [59]::(fG (zU i)++.a [59]::([.a iN,.a [40],.b nY,.a [43]]++([.c big,.a [41]]++(LQ++[.e])))):=by
  unfold t3X;rw [ag,ag];rfl
 refine aA e ?_;show (iu (dy dS) (394+1) (.a [59]::(fG (zU i)++.a [59]::([.a iN,.a [40],.b nY,.a [43]]++([.c big,.a [41]]++(LQ++[.e])))))).g (λq=>R.e (St.R (.k nA (.h z))::q.1,q.2))=_;refine aA (yO (u.c _)) ?_;rfl
section
variable {P:Pr}
theorem Pr.RG (h:P.F)(c:i<12):Ny i P.G=P.Z i:=by
 refine gl ?_;intro g;obtain ⟨f,t⟩:=ae.g (eZ ZH c);obtain ⟨e,t⟩:=ae.g t;obtain ⟨d,t⟩:=ae.g t;have a:=ae.g t;have b:Ny i (wo P.k)=gV i P.k:=by
  match P.k with
  |0=>exact eA e
  |k+1=>exact eA d
 refine (Pr.far h (Ta i c).1).b ?_;show T7 (Ny i rH) _ (Ny i (wo P.k)) _ _ (Ny i Ea) _ (Ny i oU)=_;refine aA (eA f) (aA b (aA (eA a.1) (aA (eA (ae.g a.2).1) ?_)));rfl
theorem Pr.NT (h:P.F)(c:i<12):j7 (P.Z i)=.e (t9,P.RM i):=by
 obtain ⟨_,t⟩:=ae.g (eZ ZH c);obtain ⟨_,t⟩:=ae.g t;obtain ⟨_,t⟩:=ae.g t;obtain ⟨_,t⟩:=ae.g t;obtain ⟨_,t⟩:=ae.g t;obtain ⟨f,t⟩:=ae.g t;obtain ⟨e,d⟩:=ae.g t;have b:go aw (.n,[]) (gV i P.k++[hC P.k])=ah (.n,ZK i P.k):=by
  match P.k with
  |0=>exact j5 f
  |k+1=>exact j5 e
 have u:=LH i c;have a:=aQ (Pr.abu h (bb c)) (by decide:947<yY);unfold Pr.Z at a ⊢;refine aA (Pr.lex h (j5 BS.1) b (rI _ _ _ _ (Pr.NX h)) (j5 d) (rI _ _ _ _ (Gr h.Of)) (MM BS.2) a) ?_;rw [u.a];unfold aft;refine aA (Pr.NU h (PK u P.z P.E)) ?_;rfl
theorem Pr.RH (h:P.F)(a:i<12):rj (P.RM i)=.i:=by
 obtain ⟨d,t⟩:=ae.g (eZ LG (bb a));obtain ⟨c,t⟩:=ae.g t;obtain ⟨b,t⟩:=ae.g t;refine (Pr.H8 h (t:=Od P.z (zU i) P.E) (vs:=HD (P.z+1)++JQ i) d (aa c) (aa b) (aa (ae.g t).1)).b ((LH i a).b P.z P.k _ λq=>?_);exact (ae.g ((ae.g (ae.g (ae.g (ae.g (ae.g (ae.g q).2).2).2).2).2).2)).1
end
noncomputable def wZ (i:aB)(T:Tx):Tx:=ct (nL.l i ([],[])).1 (nL.l i ([],[])).2 T
noncomputable def n0 (i:aB):ao cQ:=[[.a kA,.a wOf],[],[.b t9]].l i [.a kA,.b t9]++(Yh aw).m 2
noncomputable def nE (i:aB):ao cQ:=[LQ,LQ,LQ,[.a iQ],[.a iQ,.a [46],.c 7]].l i LQ
noncomputable def nX0:ao cQ:=[.a iN,.a [40],.b nX]
noncomputable def nWs (i:aB):ao cQ:=[nX0,[],[.a zm,.b nX,.a rX,.c 1,.a oN],[],[],nX0++[.a [41],.b nY,.a rX,.c 1],[.b nA,.a [91],.c 0,.a rX,.c 1]].l (i-5) []
noncomputable def n3 (i:aB):ao cQ:=.a [41]::.a [59]::((match bM 5 i with
 |true=>nWs i
 |false=>nX0++[.a [41]])++tYw)
noncomputable def WW (i:aB):bC:=d0 i [0,2,3,4,5,7,10,11]
theorem aaw:oB (λi=>bT (wZ i (wo 0)) (wo 0)&&(bT (wZ i (wo 1)) (wo 1)&&(!WW i||(zY (wZ i rH++[91]) (n0 i)&&(zY (wZ i Ea++[43]) (n3 i)&&(d0 i [3,4]||zY (wZ i oU) (nE i))))))) 12=ax:=by decide +kernel
theorem SQ:zY (wo 0++[42]) (LP 0 aw)=ax/\zY (wo 1++[44]) (LP 1 aw)=ax:=by decide +kernel
theorem S7 (k:aB):go aw (.n,[]) (wo k++[hC k])=ah (.n,LP k aw):=by
 refine C5 k ?_ λk=>?_
 ·exact j5 SQ.1
 ·exact j5 SQ.2
theorem Jz:∀{l:Tx},d0 c l=aw->oA c l=aq:=by
 intro b
 induction b with
 |nil=>
  intro _;exact af
 |cons d l a=>
  intro h;have h:=bN.g (show (aM c d||d0 c l)=aw from h);have e:aM d c=aw:=b6.i λq=>by rw [aD q,gU] at h;injection h.1
  show (match aM d c with
   |true=>ah l
   |false=>oA c l)=_
  exact aA e (a h.2)
theorem Rg (g:eE c=aw):∀{l:Tx},(∀d∈l,eE d=ax)->d0 c l=aw:=by
 intro b
 induction b with
 |nil=>
  intro _;exact af
 |cons d l a=>
  intro h;exact bN.i ⟨b6.i (λq=>by have:=h d (.head _);rw [← aD q,g] at this;injection this),a λe f=>h e (.R _ f)⟩
section
variable {P:Pr}
theorem Pr.vN (h:P.F)(d:∀(z big:aB) (g:ao St->Bl),((iu (dy dS) 396 (.a [59]::(tA z++(c++([.c big,.a [41]]++(a++[.e])))))).g λq=>ek iQ q.2 λr=>R.e (g q.1,r)).g (λb=>ek VB b.2 λr=>match r with
  |[]=>.j
  |.e::_=>.e (t9,b.1)
  |_::_=>.i)=.i):mT (Yh aw++([.c (P.z+1),.a [93]]++(LP P.k aw++(SD P.k++P.rw (tA P.z++(c++([.c P.E,.a [41]]++(a++[.e]))))))))=.i:=by
 rw [Cm];unfold aft;refine aA (Pr.NU h af) ?_;refine CD ?_ (d P.z P.E λq=>.e (HD (P.z+1)) (qq P.k) (qY (s1 P.m) (s2 P.n::P.A::P.B::P.D::q)));cases iu (dy dS) 396 (.a [59]::(tA P.z++(c++([.c P.E,.a [41]]++(a++[.e])))))<;>rfl
theorem Pr.XI (h:P.F):∀i,WW i=ax->i<12->mT (n0 i++([.c (P.z+1),.a [93]]++(LP P.k aw++(SD P.k++P.rw (tA P.z++(n3 i++([.c P.E,.a [41]]++(nE i++[.e]))))))))=.i
 |0,_,_=>af
 |2,_,_=>af
 |3,_,_=>Pr.vN h λz z z=>af
 |4,_,_=>Pr.vN h λz z z=>af
 |5,_,_=>Pr.vN h λz z z=>af
 |7,_,_=>Pr.vN h λz z z=>af
 |10,_,_=>Pr.vN h λz z z=>af
 |11,_,_=>Pr.vN h λz z z=>af
 |1,q,_=>by injection q
 |6,q,_=>by injection q
 |8,q,_=>by injection q
 |9,q,_=>by injection q
 |_+12,_,h=>bZ h (eg (aF _ _))
end
theorem HF (a:T.a<yY)(h:wy T .i):j7 T=.i:=by
 unfold j7 Js;exact aA (h yY a) af
theorem Wk:∀i,i<12->(d0 i [3,4]||zY (wZ i oU) (nE i))=ax->wy (wZ i oU) (.e (nE i)):=by
 intro i f h;cases q:d0 i [3,4] with
 |false=>have h:=q▸h;exact MM h
 |true=>
  have s:∀{e:Tx} {n:aB} {a:ao cQ},e.a=n->(∀g,sW (g+(n+1)) e=.e a)->wy e (.e a):=λd c g b=>by
   obtain ⟨g,rfl⟩:=Nat.le.dest (ab (az (aV d.h)) b);rw [cv];exact c g
  rcases aZ.g q with q|q
  ·refine aA (aD q) (aA (show wZ 3 oU=[32,101,110,100] from eA (by decide +kernel)) ?_);exact s af λz=>af
  rcases aZ.g q with q|q
  ·refine aA (aD q) (aA (show wZ 4 oU=[32,101,110,100,46,32,55] from eA (by decide +kernel)) ?_);exact s af λz=>af
  ·injection q
noncomputable def NH (i:aB):Tx×Tx×ao cQ:=[([41,59,32,119,114,105,116,101,40],[49,100,105,118,32,49,41],[.a [41],.a [59],.a iN,.a [40]]),([],[],[]),([41,59,32,119,114,105,116,101,40],[1635,41],[.a [41],.a [59],.a iN,.a [40]]),([41,59,32,120,32,58,61,32,49,32],[123],[.a [41],.a [59],.b nX,.a rX,.c 1])].l (i-6) ([],[],[])
theorem abi:oB (λj=>aM j 1||(bT (wZ (j+6) rH) rH&&(bT (wZ (j+6) Ea) ((NH (j+6)).1++((NH (j+6)).2.1++Ea.m 11))&&zY (NH (j+6)).1 (NH (j+6)).2.2))) 4=ax:=by decide +kernel
section
variable {P:Pr}
theorem Pr.GA (h:P.F)(a:i<12):(wZ i P.G).a<yY:=by
 have t:∀i,i<12->(nL.l i ([],[])).1≠[]/\(nL.l i ([],[])).2.a<=3*(nL.l i ([],[])).1.a:=by decide +kernel
 exact aQ (ab (t8 (t i a).1 (aa af) (t i a).2 _ _ (au _)) (bP 3 (Pr.len h))) (aa af)
theorem Pr.Cw (h:P.F)(a:i<12):wZ i P.G=T7 (wZ i rH) (49+P.z) (wo P.k) (hC P.k) (n1 P.O) (wZ i Ea) (32::cU P.E) (wZ i oU):=by
 have t:=ae.g (eZ aaw a);have b:wZ i (wo P.k)=wo P.k:=by
  match P.k with
  |0=>exact eA t.1
  |k+1=>exact eA (ae.g t.2).1
 refine (Pr.far h (Ta i a).2).b ?_;show T7 _ _ (wZ i (wo P.k)) _ _ _ _ _=_;refine aA b ?_;rfl
theorem Pr.wx (h:P.F)(b:i<12)(q:WW i=ax):j7 (wZ i P.G)=.i:=by
 have t:=(ae.g (ae.g (eZ aaw b)).2).2;rw [q] at t;have t:=ae.g t;have c:=ae.g t.2;have a:=Pr.GA h b;rw [Pr.Cw h b] at a ⊢;refine aA (Pr.lex h (j5 t.1) (S7 _) (rI _ _ _ _ (Pr.NX h)) (j5 c.1) (rI _ _ _ _ (Gr h.Of)) (Wk i b c.2) a) ?_;exact Pr.XI h i q b
theorem Pr.NW (h:P.F){j:aB}(d:j<4)(q:aM j 1=aw)(g:∀{X:Tx},d0 125 X=aw->wy ((NH (j+6)).2.1++X) .i)(f:wZ (j+6) oU=oU):j7 (wZ (j+6) P.G)=.i:=by
 have t:=eZ abi d;rw [show (aM j 1||(bT (wZ (j+6) rH) rH&&(bT (wZ (j+6) Ea) ((NH (j+6)).1++((NH (j+6)).2.1++Ea.m 11))&&zY (NH (j+6)).1 (NH (j+6)).2.2)))=_ from aW (·||_) q] at t;have t:=ae.g t;have c:=ae.g t.2;have e:j+6<12:=cH (jG d 6) (aa af);refine HF (Pr.GA h e) ?_;refine aA (Pr.Cw h e) (aA (eA t.1) (aA (eA c.1) (aA f ?_)));have v:wy (((NH (j+6)).1++((NH (j+6)).2.1++Ea.m 11))++43::((32::cU P.E)++41::oU)) .i:=by
  have:=g (X:=Ea.m 11++43::((32::cU P.E)++41::oU)) (ui af (ui (a:=[43,32]) (b:=cU P.E++41::oU) af (ui (Rg af λz=>xu) af)));refine bf (Gi this _ .n [] af [] _ (j5 c.2)) λi z l=>?_;rw [ag,ag];exact l
 exact om (j5 BS.1) (om (aaU h.z) (om (S7 _) (om (rI _ _ _ _ (Pr.NX h)) v)))
theorem MN (h:qr c l=.i):wy (c::l) .i:=λg a=>by
 cases g with
 |zero=>cases a
 |succ g=>
  show (qr c l).g _=_;exact aA h af
theorem Pr.NV (h:P.F):∀i,i<12->j7 (wZ i P.G)=.i
 |1,a=>by
  refine HF (Pr.GA h a) λg d=>?_;have b:=ab (bh _) d;rw [Pr.Cw h a,show wZ 1 rH=[112,114,111,103,114,97,109,32,116,233]++rH.m 10 from eA (by decide +kernel)] at b ⊢;obtain ⟨g,rfl⟩:=Nat.le.dest (ab (show 4<=_ from aF 4 _) b);rw [cv];rfl
 |6,_=>Pr.NW h (j:=0) (aa af) af (λz=>MN af) (eA (by decide +kernel))
 |8,_=>Pr.NW h (j:=2) (aa af) af (λz=>MN af) (eA (by decide +kernel))
 |9,_=>Pr.NW h (j:=3) (aa af) af (fun {X} q=>MN (by show (match oA 125 X with|aq=>R.i|some c=>.e (aq,c))=_;exact aA (Jz q) af)) (eA (by decide +kernel))
 |0,a=>Pr.wx h a af
 |2,a=>Pr.wx h a af
 |3,a=>Pr.wx h a af
 |4,a=>Pr.wx h a af
 |5,a=>Pr.wx h a af
 |7,a=>Pr.wx h a af
 |10,a=>Pr.wx h a af
 |11,a=>Pr.wx h a af
 |_+12,h=>bZ h (eg (aF _ _))
end
theorem Tj:∀i,i<12->((qR.l i ([],[])).1≠[]/\(qR.l i ([],[])).1≠(qR.l i ([],[])).2/\(qR.l i ([],[])).2.a<=100)/\(nL.l i ([],[])).1≠[]/\(nL.l i ([],[])).1≠(nL.l i ([],[])).2/\(nL.l i ([],[])).2.a<=100:=by decide +kernel
section
variable {T:dt}{D:aB->aJ cO}{C:fk}{n:aB}{σ:a8}{X:QX}{l:ao aU}{ev:Ev}{QQ:QF}{XX:XS}{o:aB}
theorem Wl (h:(AV.f L).m<=100)(q:P ax):FH .d (.f L) (.c t) σ P:=by
 exact b8 (P:=λr=>sP (bM (AV.f L).m 100) (P (!r))) af (q6 (ml h) q)
theorem Mg (h:ev 21=ah (.g ax))(b:QQ (.b (.g ax)) ev σ):di T C (.a (.vj (.G (.v 21)) a .b) (.a (.CF (.A ax)) .b)) ev σ QQ XX:=aH h b
theorem Sz (b:ev k=ah v)(c:T.a f=aq)(h:∀{Q:QV} {X:QX},(∀a,X a)->C f [v] σ Q X)(q:∀a,di T C (.a s r) (bu ev 21 (.g ax)) a QQ XX):di T C (.a (.yv (.a (.oM (.u f (.a (.v k) .b))) .b) 21 (.A ax)) (.a s r)) ev σ QQ XX:=aH b ⟨c,h λa=>q a⟩
theorem aaK (K:w4 T D)(m:24<=l.a)(g:130<=n)(H:E5 l ev σ o)(r:∀ev σ,QQ (.b (.g ax)) ev σ):di T (bp T D n) Up ev σ QQ XX:=by
 have d:=uj l;have b:=mi l 5 (c:=12) (aa af);have a:=(Tj _ b).1;refine cE (xn K.G H.c m (aa af) (aa af) (aa af) af ?_);refine cE (vr (λp=>jJ (ev:=bu ev 23 _) (i:=17) H.r p) (λp=>eT (i:=23) (j:=0) af af af p) (λp=>eT (i:=23) (j:=1) af af af p) a.1 a.2.1 (ab (Pr.len d) (aa af)) a.2.2 ?_);refine aA (show ct (qR.l (sN l 5 12) ([],[])).1 (qR.l (sN l 5 12) ([],[])).2 (dT l).G=(dT l).Z (sN l 5 12) from Pr.RG d b) ?_;refine cE (eu (bI (λp=>jJ (ev:=bu (bu ev 23 _) 24 _) (i:=24) af p) (eO ⟨K.b 13 af af,ue K.toCore (ab (aa af) g) ?_⟩)));refine aA (Pr.NT d b) ?_;intro f t;refine BN K g (ev:=bu (bu (bu ev 23 _) 24 _) 22 _) (i:=sN l 5 12) (j:=24) (k:=22) (bb b) af af λe s=>(Sz (ev:=bu (bu (bu ev 23 _) 24 _) 22 _) (k:=22) af (K.a 33 af af) (λh=>Ep K g (aA (Pr.RH d b) h)) λq=>?_);exact Mg (ev:=bu (bu (bu (bu ev 23 _) 24 _) 22 _) 21 _) af (r _ _)
theorem aaJ (K:w4 T D)(b:24<=l.a)(g:130<=n)(H:E5 l ev σ o)(m:∀ev σ,QQ (.b (.g ax)) ev σ):di T (bp T D n) Uq ev σ QQ XX:=by
 have d:=uj l;have e:=mi l 5 (c:=12) (aa af);have a:=(Tj _ e).2;refine cE (xn K.H H.c b (aa af) (aa af) (aa af) af ?_);refine cE (vr (λp=>jJ (ev:=bu ev 23 _) (i:=17) H.r p) (λp=>eT (i:=23) (j:=0) af af af p) (λp=>eT (i:=23) (j:=1) af af af p) a.1 a.2.1 (ab (Pr.len d) (aa af)) a.2.2 ?_);refine Sz (ev:=bu (bu ev 23 _) 24 _) (k:=24) af (K.b 13 af af) (λh=>ue K.toCore (ab (aa af) g) (by
  exact aA (show j7 (ct (nL.l (sN l 5 12) ([],[])).1 (nL.l (sN l 5 12) ([],[])).2 (dT l).G)=R.i from Pr.NV d _ e) h)) λf=>?_
 exact Mg (ev:=bu (bu (bu ev 23 _) 24 _) 21 _) af (m _ _)
theorem Cc (f:ev 1=ah (.d (k:aB)))(d:k=m->di T C a ev σ (Cr T C s q QQ XX) XX)(c:k≠m->di T C (.a s q) ev σ QQ XX):di T C (.a (.vj (.q .a (.v 1) (.d m)) a .b) (.a s q)) ev σ QQ XX:=by
 exact AN (b:=bg ((k:aU)=(m:aU))) (λp=>aH f p) (λh=>d (kQ (aX h))) λh=>c λe=>(aR ((e▸h).h.b (bF af)))
end
theorem adb (K:w4 T D)(l:ao aU):OQ T D 200 41 [.j (l.d .d)]:=by
 refine acC 1 l0 FA Fz K.E af ?_;generalize s:(λi:aB=>([.j (l.d .d)]:ao AV)[i]?)=ev;have q:ev 0=ah (.j (l.d .d)):=dw s af;refine mq ?_;intro y;refine AN (b:=bg ((l.a:aU)<24)) (λp=>?_) (λ_=>?_) λh=>?_
 ·refine aH q ?_;have e:((l.d AV.d).a:aU)=l.a:=by rw [ay]
  have p:=e▸p;exact p
 ·exact af
 have a:24<=l.a:=cy.g (dQ.g (cV h));refine Xc a q λev H=>(PR K.toLaw1 (n:=197) a H λev σ x B u A t z H=>?_);refine VO K a H λev σ o H=>(VL H λev σ H=>?_);refine Qz K a H λev H=>(Cc (m:=2) H.f (λ_=>aaL K (by decide) H λ_ _=>af) λ_=>?_);refine Cc (m:=3) H.f (λ_=>aaK K a (by decide) H λ_ _=>af) λ_=>(Cc (m:=4) H.f (λ_=>aaJ K a (by decide) H λ_ _=>af) λ_=>?_);refine ZD K a (by decide) H λev σ f r k j g=>?_;show ey T (bp T D 200) FA ev σ (λv c=>v8 v (ey T (bp T D 200) Fz ev c (λw _=>CT w λl=>DA l=ax) (λ_=>cR)) True) (λ_=>cR);refine s6 (jJ k (du ?_));cases f with
 |none=>exact vx (v:=.c Lw) j6 kN
 |some d=>
  have v:=r d af;refine Wl (BG (ah d)).2 (f7 (jJ j (jJ g ⟨?_,?_⟩)))
  ·rw [ay];exact ab (aL v v) (aa af)
  ·show DA (d.d .d++d.d .d)=ax;exact dw cw (JC _)
end Mine.Internal.P
namespace Mine.Internal
open PySem PySem.Calls PyProof.Rows
section
variable {α:Type}{M:Model}{A:k8}{t:Sem α}{Q:α->bH->Prop}{E:bz->bH->Prop}{s:bH}
theorem J5 (q:let z:bz->bH->Prop:=E;bc M A t Q z s):bc M A t Q E s:=q
theorem jI (q:let z:α->bH->Prop:=Q;bc M A t z E s):bc M A t Q E s:=q
theorem sE (q:let z:bH:=s;bc M A t Q E z):bc M A t Q E s:=q
end
structure iV where
 l:ao (eH×aJ eH)
 d:aB->aJ Tx
noncomputable def iV.f (ρ:iV)(p:eH×aJ eH):iV:=⟨ρ.l++[p],ρ.d⟩
noncomputable def iV.i (ρ:iV)(t:aB)(x:Tx):iV:=⟨ρ.l,λu=>if u=t then ah x else ρ.d u⟩
structure iV.g (ρ ρ':iV):Prop where
 l:ρ.l <+: ρ'.l
 g:∀t x,ρ.d t=ah x->ρ'.d t=ah x
theorem iV.g.d (ρ:iV):ρ.g ρ:=⟨List.prefix_refl _,λz z h=>h⟩
theorem iV.g.k {ρ ρ' c:iV}(a:ρ.g ρ')(b:ρ'.g c):ρ.g c:=⟨a.l.b b.l,λt x h=>b.g t x (a.g t x h)⟩
theorem iV.g.f (ρ:iV)(p):ρ.g (ρ.f p):=⟨⟨_,af⟩,λz z h=>h⟩
theorem ba {α:Type}{o:aJ α}{a:α}{P:Prop}(h:o=aq)(h':o=ah a):P:=by have h':=h▸h';injection h'
theorem iV.g.i {ρ:iV}{t:aB}(x:Tx)(h:ρ.d t=aq):ρ.g (ρ.i t x):=⟨List.prefix_refl _,λu y e=>by
 show (if u=t then ah x else ρ.d u)=ah y
 by_cases q:u=t
 ·subst q;exact ba h e
 ·exact aA (dA q) e⟩
theorem iV.j (ρ:iV)(t)(x):(ρ.i t x).d t=ah x:=c7 af
noncomputable abbrev zj (p:eH×aJ eH):ao eH:=p.1::p.2.u
noncomputable def iL (ρ:iV):ao eH:=ρ.l.kJ zj
noncomputable def dq (l:Tx):ft:=⟨l.N⟩
def Vx (h:eI) (a:eH) (b:rU bz):Prop:=∃n,h.f a=ah ({cls:=.v "tuple",dict:=aq,data:=.seq b n,slots:=#[]}:R1)
def N5 (h:eI) (a:eH) (b:rU bz):Prop:=∃n,h.f a=ah ({cls:=.v "list",dict:=aq,data:=.seq b n,slots:=#[]}:R1)
theorem Vx.JP (x:Vx h a b):IsTup h a b:=let ⟨n,e⟩:=x;⟨_,e,af,n,af⟩
def ZA (h:eI)(r:eH)(a b c:aU):Prop:=∃t u v,IsRange h r a b c t u v
section
variable (base h:eI)(ρ:iV)
mutual
noncomputable def RV:AV->bz->Prop
 |.h,v=>v=.s
 |.g b,v=>v=.bool b
 |.d i,v=>∃t,v=.O i t
 |.c s,v=>∃t,v=.str (dq s) t/\s.a<=gL/\t≠0/\ρ.d t=ah s
 |.f e,v=>∃a d,v=.t a/\Vx h a d/\iM e d.u/\e.a<=gL
 |.e r,v=>∃p,v=.t p.1/\ρ.l[r]?=ah p
 |.k a b c,v=>∃r,v=.t r/\ZA h r a b c/\a.o<=n9/\b.o<=n9/\(c=1\/c=-1)
 |.j e,v=>∃a d,v=.t a/\N5 base a d/\iM e d.u/\e.a<=gL
 |.l c,v=>v=c
noncomputable def iM:ao AV->ao bz->Prop
 |[],l=>l=[]
 |x::b,l=>∃v a,l=v::a/\RV x v/\iM b a
end
end
def uK (o:R1):Prop:=(o.cls=.v "tuple"/\∃a n,o.U=.seq a n)\/(o.cls=.v "range"/\∃b,o.U=.T b)
def z6 (h h':eI):Prop:=∀b o,h.f b=ah o->uK o->h'.f b=ah o
section
variable {base h h':eI}{ρ ρ':iV}
theorem iV.g.j (b:ρ.g ρ'){r:aB}(e:ρ.l[r]?=ah p):ρ'.l[r]?=ah p:=by
 obtain ⟨t,a⟩:=b.l;exact a▸cY (a7.g e).1▸e
set_option tactic.hygienic true in
theorem RV.yz (m:z6 h h')(l:ρ.g ρ'):∀x v,RV base h ρ x v->RV base h' ρ' x v:=by
 intro x
 induction x using AV.rec (motive_2:=λf=>∀e,iM base h ρ f e->iM base h' ρ' f e) with
 |h=>exact λv h=>h
 |g b=>exact λv h=>h
 |d i=>exact λv h=>h
 |c s=>exact λv q=>q.I λt q=>fK q.1 q.2.1 q.2.2.1 (l.g t s q.2.2.2)
 |f e k=>exact λv q=>q.I λa q=>q.I λd q=>fK q.1 (q.2.1.I λn o=>m a _ o (.C ⟨af,d,n,af⟩)) (k _ q.2.2.1) q.2.2.2
 |e r=>exact λv q=>q.I λp q=>⟨q.1,l.j q.2⟩
 |k a b c=>exact λv q=>q.I λr q=>dX q.1 (q.2.1.I λt q=>q.I λu q=>q.I λw y=>m _ _ y (.y ⟨af,_,af⟩)) q.2.2
 |j e k=>exact λv q=>q.I λa q=>q.I λd q=>fK q.1 q.2.1 (k _ q.2.2.1) q.2.2.2
 |l c=>exact λv h=>h
 |nil=>rename_i e q;exact q
 |cons x f g j=>rename_i e q;exact q.I λv q=>q.I λe q=>dX q.1 (g v q.2.1) (j e q.2.2)
theorem iM.el {P:ao bz->Prop}(q:iM base h ρ (x::xs) l)(k:∀v vs,RV base h ρ x v->iM base h ρ xs vs->P (v::vs)):P l:=by
 refine mO q λv vs c a b=>?_;subst c;exact k v vs a b
theorem iM.nl {P:ao bz->Prop}(q:iM base h ρ [] l)(k:P []):P l:=by obtain rfl:=q;exact k
theorem iM.FP (e:z6 h h')(d:ρ.g ρ')(q:iM base h ρ xs vs):iM base h' ρ' xs vs:=by
 induction xs generalizing vs with
 |nil=>exact q
 |cons x xs c=>exact q.el λv vs a b=>jf v vs af (RV.yz e d _ _ a) (c b)
theorem iM.yy {xs:ao AV}(q:iM base h ρ xs vs):xs.a=vs.a:=by
 induction xs generalizing vs with
 |nil=>exact q.nl (P:=λl=>0=l.a) af
 |cons x xs c=>exact q.el (P:=λl=>xs.a+1=l.a) λv vs a b=>aW ix (c b)
theorem iM.ny {xs:ao AV}{a:rU bz}(r:iM base h ρ xs a.u):xs.a=a.k:=r.yy.b eG
theorem iM.Px {xs:ao AV}{vs:ao bz}{k:aB}{x:AV}(q:iM base h ρ xs vs)(e:xs[k]?=ah x):∃v,vs[k]?=ah v/\RV base h ρ x v:=by
 induction xs generalizing vs k with
 |nil=>exact ba af e
 |cons y xs c=>
  refine q.el (P:=λl=>∃v,l[k]?=ah v/\RV base h ρ x v) λv vs a b=>?_;cases k with
  |zero=>exact bQ v af (dw (aK e) a)
  |succ k=>exact c (k:=k) b e
theorem iM.pK (q:iM base h ρ xs vs)(y:iM base h ρ ys c):iM base h ρ (xs++ys) (vs++c):=by
 induction xs generalizing vs with
 |nil=>exact q.nl (P:=λl=>iM base h ρ ys (l++c)) y
 |cons x xs d=>exact q.el (P:=λl=>iM base h ρ (x::(xs++ys)) (l++c)) λv vs a b=>jf v (vs++c) af a (d b)
theorem iM.Pw {xs:ao AV}(k:aB)(q:iM base h ρ xs vs):iM base h ρ (xs.K k) (vs.K k):=by
 induction xs generalizing vs k with
 |nil=>exact q.nl (P:=λl=>iM base h ρ ([].K k) (l.K k)) (by refine aA o6 ?_;exact o6)
 |cons x xs c=>
  cases k with
  |zero=>exact (af:vs.K 0=[])
  |succ k=>exact q.el (P:=λl=>iM base h ρ (x::xs.K k) (l.K (k+1))) λv vs a b=>jf v (vs.K k) af a (c k b)
theorem iM.Vz {xs:ao AV}(k:aB)(q:iM base h ρ xs vs):iM base h ρ (xs.m k) (vs.m k):=by
 induction xs generalizing vs k with
 |nil=>exact q.nl (P:=λl=>iM base h ρ ([].m k) (l.m k)) (by refine aA o7 ?_;exact o7)
 |cons x xs c=>
  cases k with
  |zero=>exact q
  |succ k=>exact q.el (P:=λl=>iM base h ρ (xs.m k) (l.m (k+1))) λv vs a b=>c k b
theorem iM.set {xs:ao AV}(k:aB)(q:iM base h ρ xs vs)(y:RV base h ρ x v):iM base h ρ (xs.w k x) (vs.w k v):=by
 induction xs generalizing vs k with
 |nil=>exact q.nl (P:=λl=>iM base h ρ [] (l.w k v)) (af:_=[])
 |cons z xs c=>
  refine q.el (P:=λl=>iM base h ρ ((z::xs).w k x) (l.w k v)) λw vs a b=>?_;cases k with
  |zero=>exact jf v vs af y b
  |succ k=>exact jf w (vs.w k v) af a (c k b)
theorem iM.rev {xs:ao AV}(q:iM base h ρ xs vs):iM base h ρ xs.B vs.B:=by
 induction xs generalizing vs with
 |nil=>exact q.nl (P:=λl=>iM base h ρ [] l.B) (af:_=[])
 |cons x xs c=>
  refine q.el (P:=λl=>iM base h ρ (x::xs).B l.B) λv vs a b=>?_;refine aA jm (aA jm ?_);exact (c b).pK (jf v [] af a af)
theorem iM.ZC (r:RV base h ρ x v):iM base h ρ [x] [v]:=jf v [] af r af
end
noncomputable def Ic (base h:eI)(ρ:iV):ao (Tx×AV)->ao (ft×bz)->Prop
 |[],l=>l=[]
 |(x,a)::b,l=>∃v r,l=(dq x,v)::r/\RV base h ρ a v/\Ic base h ρ b r
theorem pC (h:dq a=dq b):a=b:=(List.toArray_inj (by injection h))
theorem gj:bT a b=ax↔a=b:=by
 induction a generalizing b with
 |nil=>cases b<;>exact ⟨λh=>(by cases h<;>rfl),λh=>(by cases h<;>rfl)⟩
 |cons a l c=>
  cases b with
  |nil=>exact ⟨λh=>(by cases h),λh=>(by cases h)⟩
  |cons b r=>
   show (aM a b&&bT l r)=ax↔_;rw [ae,c,Nat.beq_eq,List.cons_eq_cons]
theorem IH (x y)(a)(b:ao (Tx×AV)):((y,a)::b).j x=if x=y then ah a else b.j x:=by
 refine aA iH ?_;by_cases q:x=y
 ·refine aA (c7 q) ?_;rw [q,kh]
 ·exact aA (dA q) (aA (dR.i q) af)
section
variable {base h h':eI}{ρ ρ':iV}
theorem Ic.el {P:ao (ft×bz)->Prop}(q:Ic base h ρ (p::e) l)(k:∀v r,RV base h ρ p.2 v->Ic base h ρ e r->P ((dq p.1,v)::r)):P l:=by
 refine mO q λv d c a b=>?_;subst c;exact k v d a b
theorem Ic.nl {P:ao (ft×bz)->Prop}(q:Ic base h ρ [] l)(k:P []):P l:=by obtain rfl:=q;exact k
theorem Ic.abH (g:z6 h h')(f:ρ.g ρ')(q:Ic base h ρ d c):Ic base h' ρ' d c:=by
 induction d generalizing c with
 |nil=>exact q
 |cons p d e=>exact q.el λv r a b=>jf v r af (RV.yz g f _ _ a) (e b)
theorem Ic.X1 (q:Ic base h ρ d c):d.a=c.a:=by
 induction d generalizing c with
 |nil=>exact q.nl (P:=λl=>0=l.a) af
 |cons p d e=>exact q.el (P:=λl=>d.a+1=l.a) λv r a b=>aW ix (e b)
theorem Bc (k x)(v)(a:ao (ft×bz)):zw ((k,v)::a) x=if k=x then ah v else zw a x:=by
 unfold zw;refine aA zf ?_;by_cases q:k=x
 ·refine aA (c7 q) ?_;simp only [q,decide_true];rfl
 ·refine aA (dA q) ?_;simp only [q,decide_false]
def abD (base h:eI)(ρ:iV)(o:aJ AV)(m:aJ bz):Prop:=match o with
 |some a=>∃v,m=ah v/\RV base h ρ a v
 |none=>m=aq
theorem Ic.abI (x:Tx)(q:Ic base h ρ d c):abD base h ρ (d.j x) (zw c (dq x)):=by
 induction d generalizing c with
 |nil=>exact q.nl (P:=λl=>zw l (dq x)=aq) af
 |cons p d e=>
  refine q.el (P:=λl=>abD base h ρ ((p::d).j x) (zw l (dq x))) λv r a b=>?_;rw [IH x p.1 p.2,Bc];by_cases q:x=p.1
  ·refine aA (c7 q) (aA (c7 (aW dq q.h)) ?_);exact bQ v af a
  ·refine aA (dA q) (aA (dA λz=>q (pC z).h) ?_);exact e b
theorem Ic.put (x:Tx)(j:RV base h ρ a v)(q:Ic base h ρ g b)(f:(b.d (·.1)).kl):Ic base h ρ (xR x a g) (stored b (dq x) v):=by
 induction g generalizing b with
 |nil=>exact q.nl (P:=λl=>Ic base h ρ [(x,a)] (stored l (dq x) v)) (jf v [] af j af)
 |cons p g e=>
  revert f;refine q.el (P:=λl=>(l.d (·.1)).kl->Ic base h ρ (xR x a (p::g)) (stored l (dq x) v)) λu b m k f=>?_;have f:=eC.g f;have e:=e k f.2;show Ic base h ρ (kr (bT p.1 x) ((p.1,a)::g) (p::xR x a g)) _;revert e;unfold stored;cases q:bT p.1 x with
  |true=>
   have q:=gj.g q;subst q;intro _;refine aA (c7 (by rw [tu,bF (af:(dq p.1,u).1=dq p.1)];rfl)) (aA je (aA (c7 af) (aA (show (b.d λd=>if d.1=dq p.1 then (d.1,v) else d)=b from (jW λd n=>dA λ(q:d.1=dq p.1)=>f.1 (iT.i (bQ d n q))).b (List.map_id b)) ?_)))
   exact jf v b af j k
  |false=>
   have i:dq p.1≠dq x:=λz=>by have q:=gj.i (pC z)▸q;injection q
   refine aA tu ?_;rw [bR i,Bool.false_or,je,dA i];by_cases c:(b.any λd=>bg (d.1=dq x))
   ·refine aA (c7 c) (aA (c7 c) ?_);exact λe=>jf u _ af m e
   ·refine aA (dA c) (aA (dA c) ?_);exact λe=>jf u _ af m e
theorem C3 (x)(a)(b):(xR x a b).a<=b.a+1:=by
 induction b with
 |nil=>exact au 1
 |cons p b c=>
  show (kr (bT p.1 x) ((p.1,a)::b) (p::xR x a b)).a<=b.a+1+1;cases bT p.1 x
  ·exact az c
  ·exact bh _
end
section
variable (prog:jk)(w:lA)(base:eI)(cls:aB->aJ eH)
noncomputable def EI (h:eI)(ρ:iV):ao (At×AV)->ao DictEntry->Prop
 |[],l=>l=[]
 |(x,a)::d,l=>∃b c,l=b::c/\(∃t,b.key=.str (cN x) t)/\RV base h ρ a b.val/\EI h ρ d c
noncomputable def zd (h:eI)(ρ:iV)(p:eH×aJ eH):MO->Prop
 |.a f=>p.2=aq/\∃a,N5 h p.1 a/\iM base h ρ f a.u/\f.a<=gL
 |.d d=>p.2=aq/\∃b:ao (ft×bz),h.DictOf (strKind prog w) p.1 b/\Ic base h ρ d b/\d.a<=gL
 |.b c g=>∃e C i d n,p.2=ah e/\cls c=ah C/\h.f p.1=ah ⟨.t C,ah e,.plain,i⟩/\
   h.f e=ah ⟨.v "dict",aq,.dict d.N n,#[]⟩/\EI base h ρ g d/\(g.d (·.1)).kl
structure FJ (ρ:iV)(σ:a8)(h:eI):Prop where
 D:ρ.l.a=σ.a
 G:∀(r:aB) p o,ρ.l[r]?=ah p->σ[r]?=ah o->zd prog w base cls h ρ p o
 I:∀(r r':aB) p p',r≠r'->ρ.l[r]?=ah p->ρ.l[r']?=ah p'->∀b∈zj p,b∉zj p'
 K:∀(r:aB) p,ρ.l[r]?=ah p->(zj p).kl
 J:∀a∈iL ρ,base.f a=aq
end
open PySem PySem.Calls PyProof.Rows
abbrev Kp (h h':eI):Prop:=∀b o,h.f b=ah o->h'.f b=ah o
theorem Kp.w5 (o:R1):Kp h (h.push o):=λz z e=>bE _ e
theorem Kp.imm (k:Kp h h'):z6 h h':=λb o e z=>k b o e
theorem kv (h:eI):h.f h.q.k=aq:=mf (au _)
def JV (h h':eI):Prop:=∀a o,h.f a=ah o->∃b,h'.f a=ah b
theorem JV.ED (x:JV h h')(y:JV h' h''):JV h h'':=λa o e=>let ⟨b,c⟩:=x a o e;y a b c
theorem JV.JJ (x:JV h h')(e:h'.f a=aq):h.f a=aq:=by
 cases q:h.f a with
 |none=>rfl
 |some o=>obtain ⟨c,b⟩:=x a o q;exact ba e b
theorem JV.Ib (k:Kp h h'):JV h h':=λa o e=>⟨o,k a o e⟩
theorem JV.but (d:gr a h h')(f:∃c,h'.f a=ah c):JV h h':=λb o e=>by
 by_cases q:b=a
 ·subst q;exact f
 ·exact ⟨o,(d.2 b q).b e⟩
structure qo (F:ao eH)(own:eH->Prop)(ρ:iV)(h:eI)(ρ':iV)(h':eI):Prop where
 J:ρ.g ρ'
 H:∀a∈iL ρ',a∈iL ρ\/h.f a=aq
 E:JV h h'
 B:z6 h h'
 I:∀b o,h.f b=ah o->b∉iL ρ->¬ own b->b∉F->h'.f b=ah o
 N:∀b o,h.f b=ah o->b∉iL ρ->¬ own b->∃sl,h'.f b=ah {o with slots:=sl}
def wR:eH->Prop:=λz=>cR
section
variable {F:ao eH}{own:eH->Prop}{ρ ρ' ρ'':iV}{h h' h'':eI}
theorem qo.P (c:ρ.g ρ')(d:∀a∈iL ρ',a∈iL ρ\/h.f a=aq)(k:Kp h h'):qo F own ρ h ρ' h':=⟨c,d,JV.Ib k,k.imm,λb o e z z z=>k b o e,λb o e z z=>⟨o.slots,k b o e⟩⟩
theorem qo.D (a:Kp h h'):qo F own ρ h ρ h':=.P (iV.g.d _) (λz m=>.C m) a
theorem qo.G:qo F own ρ h ρ h:=.D λz z e=>e
theorem qo.K (o:R1):qo F own ρ h ρ (h.push o):=.D (Kp.w5 o)
theorem qo.U (x:Tx)(a:ρ.d t=aq):qo F own ρ h (ρ.i t x) h:=.P (iV.g.i x a) (λz m=>.C m) λz z e=>e
theorem u5 (ρ)(p):iL (ρ.f p)=iL ρ++zj p:=by
 unfold iL iV.f;exact aA List.flatMap_append (aW (_++·) (bD _))
theorem tC (b:∀a∈zj p,h.f a=aq):∀a∈iL (ρ.f p),a∈iL ρ\/h.f a=aq:=λa m=>(ze.g (dw (u5 ρ p) m)).I id (b a)
theorem YN:∀a∈zj (h.q.k,aq),h.f a=aq:=λa q=>aA (a6.g q) (kv h)
theorem qo.Q (o:R1):qo F own ρ h (ρ.f (h.q.k,aq)) (h.push o):=.P (iV.g.f _ _) (tC YN) (Kp.w5 o)
theorem qo.A (x:qo F own ρ h ρ' h')(y:qo F own ρ' h' ρ'' h''):qo F own ρ h ρ'' h'':=by
 have c:∀b o,h.f b=ah o->b∉iL ρ->b∉iL ρ':=λb o e n m=>(x.H b m).e n λq=>ba q e;exact ⟨x.J.k y.J,λa m=>(y.H a m).e (x.H a) λq=>.y (x.E.JJ q),x.E.ED y.E,λb o e i=>y.B b o (x.B b o e i) i,
  λb o e n w f=>y.I b o (x.I b o e n w f) (c b o e n) w f,λb o e n w=>let ⟨k,j⟩:=x.N b o e n w;let ⟨d,g⟩:=y.N b _ j (c b o e n) w;⟨d,g⟩⟩
theorem qo.Y (x:qo F own ρ h ρ' h')(c:∀b,own b->a b):qo F a ρ h ρ' h':=
 ⟨x.J,x.H,x.E,x.B,λb o e n w f=>x.I b o e n (λq=>w (c b q)) f,λb o e n w=>x.N b o e n λq=>w (c b q)⟩
theorem qo.O (x:qo F wR ρ h ρ' h'):qo F own ρ h ρ' h':=x.Y λz q=>q.e
theorem qo.W (x:qo (L::F) own ρ h ρ' h')(a:h.f L=aq):qo F own ρ h ρ' h':=
 ⟨x.J,x.H,x.E,x.B,λb o e n w f=>x.I b o e n w λm=>(cz.g m).e (λq=>ba a (dw q e)) f,x.N⟩
theorem qo.V (c:gr a h h')(d:∃j,h'.f a=ah j)(l:h.f a=ah g)(k:¬ uK g)(f:∀b,b∉iL ρ->¬ own b->b≠a):qo F own ρ h ρ h':=
 ⟨iV.g.d _,λz m=>.C m,JV.but c d,λb o e i=>(c.2 b λq=>by subst q;have e:=l▸e;injection e with e;subst e;exact k i).b e,
  λb o e n w z=>(c.2 b (f b n w)).b e,λb o e n w=>⟨o.slots,(c.2 b (f b n w)).b e⟩⟩
theorem qo.R (f:gr a h h')(c:∃e,h'.f a=ah e)(j:h.f a=ah d)(i:¬ uK d)(g:a∈iL ρ):qo F own ρ h ρ h':=.V f c j i λb n z q=>n (aA q g)
theorem qo.X (f:gr a h h')(c:∃e,h'.f a=ah e)(j:h.f a=ah d)(i:¬ uK d)(g:own a):qo F own ρ h ρ h':=.V f c j i λb z n q=>n (aA q g)
theorem qo.s (x:qo F own ρ h ρ' h')(r:RV base h ρ a v):RV base h' ρ' a v:=RV.yz x.B x.J a v r
theorem qo.M (x:qo F own ρ h ρ' h')(r:iM base h ρ a v):iM base h' ρ' a v:=iM.FP x.B x.J r
end
section
variable {prog:jk}{w:lA}{base:eI}{cls:aB->aJ eH}{h h':eI}{ρ ρ':iV}{σ:a8}
theorem EI.abG (e:z6 h h')(d:ρ.g ρ')(q:EI base h ρ a b):EI base h' ρ' a b:=by
 induction a generalizing b with
 |nil=>exact q
 |cons p a c=>exact Exists.imp (λf q=>Exists.imp (λb q=>fK q.1 q.2.1 (RV.yz e d _ _ q.2.2.1) (c q.2.2.2)) q) q
theorem og (p):p.1∈zj p:=dY ..
theorem K8 (e:p.2=ah a):a∈zj p:=de _ (aA e (a6.i af))
theorem zd.RU (g:z6 h h')(f:ρ.g ρ')(a:∀b d,b∈zj p->h.f b=ah d->h'.f b=ah d)(x:zd prog w base cls h ρ p o):zd prog w base cls h' ρ' p o:=by
 cases o with
 |a l=>exact ⟨x.1,x.2.I λe q=>dX (q.1.I λn k=>a _ _ (og p) k) (iM.FP g f q.2.1) q.2.2⟩
 |d i=>exact ⟨x.1,x.2.I λj q=>dX (q.1.I λd q=>q.I λi q=>q.I λs q=>⟨a _ _ (og p) q.1,q.2⟩) (q.2.1.abH g f) q.2.2⟩
 |b c r=>exact x.I λt q=>q.I λC q=>q.I λm q=>q.I λi q=>q.I λn q=>yj q.1 q.2.1 (a _ _ (og p) q.2.2.1) (a _ _ (K8 q.1) q.2.2.2.1) (q.2.2.2.2.1.abG g f) q.2.2.2.2.2
theorem ky {r:aB}(e:ρ.l[r]?=ah p)(a:b∈zj p):b∈iL ρ:=
 List.mem_flatMap.i (bQ p (eQ e) a)
def Yt (o:R1):Prop:=o.cls≠.v "tuple"/\o.cls≠.v "range"/\o.cls≠.v "ValueError"/\o.cls≠.v "traceback"
theorem Yt.imm (h:Yt o):¬ uK o:=λi=>i.e (λq=>h.1 q.1) λq=>h.2.1 q.1
theorem Fo (h:o.cls=v) (d:v≠.v "tuple") (c:v≠.v "range") (b:v≠.v "ValueError") (a:v≠.v "traceback"):Yt o:=fK (aA h d) (aA h c) (aA h b) (aA h a)
theorem xV (h:o.cls=.v "list"):Yt o:=Fo h (by decide) (by decide) (by decide) (by decide)
theorem C4 (h:o.cls=.v "dict"):Yt o:=Fo h (by decide) (by decide) (by decide) (by decide)
theorem OI (h:o.cls=.t C):Yt o:=Fo h (λq=>by injection q) (λq=>by injection q) (λq=>by injection q) (λq=>by injection q)
theorem FJ.O (S:FJ prog w base cls ρ σ h)(m:a∈iL ρ):∃o,h.f a=ah o/\Yt o:=by
 refine bf (List.mem_flatMap.g m) λp s i=>?_;obtain ⟨r,g⟩:=List.mem_iff_getElem?.g s;have f:=S.D▸(a7.g g).1;have x:=S.G r p σ[r] g (bV f);have b:p.2=aq->a=p.1:=λe=>by
  rcases cz.g i with q|q
  ·exact q
  ·have q:=e▸q;cases q
 revert x;cases σ[r] with
 |a v=>
  exact λx=>x.2.e λd q=>q.1.e λn t=>aA (b x.1) (bQ _ t (xV af))
 |d j=>
  exact λx=>x.2.e λl q=>q.1.e λk q=>q.e λj q=>q.e λA q=>aA (b x.1) (bQ k q.1 (C4 q.2.1.1))
 |b c z=>
  exact λx=>x.e λu q=>q.e λC q=>q.e λy q=>q.e λj q=>q.e λn x=>(cz.g i).e (λq=>aA q (bQ _ x.2.2.1 (OI af))) λq=>a6.g (x.1▸q:a∈(ah u).u)▸(bQ _ x.2.2.2.1 (C4 af))
theorem FJ.H (S:FJ prog w base cls ρ σ h)(m:a∈iL ρ):∃o,h.f a=ah o/\¬ uK o:=let ⟨o,e,i⟩:=S.O m;(bQ o e i.imm)
theorem FJ.L (S:FJ prog w base cls ρ σ h)(e:z6 h h')(d:∀b a,b∈iL ρ->h.f b=ah a->h'.f b=ah a):FJ prog w base cls ρ σ h':=
 ⟨S.D,λr p o c g=>(S.G r p o c g).RU e (iV.g.d _) λb a f=>d b a (ky c f),S.I,S.K,S.J⟩
theorem FJ.P (S:FJ prog w base cls ρ σ h)(x:Tx)(a:ρ.d t=aq):FJ prog w base cls (ρ.i t x) σ h:=
 ⟨S.D,λr p o c b=>(S.G r p o c b).RU (λz z e z=>e) (iV.g.i x a) λz z z e=>e,S.I,S.K,S.J⟩
theorem xg {p q:eH×aJ eH}(e:(l++[p])[r]?=ah q):l[r]?=ah q\/(r=l.a/\q=p):=by
 by_cases a:r<l.a
 ·rw [cY a] at e;exact .C e
 ·have e:=dH (iJ a)▸e;cases b:r-l.a with
  |zero=>have e:=b▸e;injection e with e;subst e;exact .y ⟨rt (Nat.sub_eq_zero_iff_le.g b) (iJ a),af⟩
  |succ k=>rw [b] at e;injection e
theorem FJ.N (S:FJ prog w base cls ρ σ h)(A:base.jC h)(v:Kp h h')(m)(c:∀a∈zj p,h.f a=aq)(l:(zj p).kl)
  (z:zd prog w base cls h' (ρ.f p) p m):FJ prog w base cls (ρ.f p) (σ++[m]) h':=by
 have i:∀r q,ρ.l[r]?=ah q->∀b∈zj q,b∉zj p:=λr q e b n x=>let ⟨o,y,_⟩:=S.H (ky e n);ba (c _ x) y;refine ⟨by rw [ai];exact (ai).b (aW (·+1) S.D),λr q o s d=>?_,λr t q u j s d b g f=>?_,λr q e=>?_,λa B=>?_⟩
 ·rcases xg s with e|⟨rfl,rfl⟩
  ·rw [cY (dw S.D (a7.g e).1)] at d;exact (S.G r q o e d).RU v.imm (iV.g.f _ _) λ_ _ _ e=>v _ _ e
  ·rw [S.D,dH (au _),k9] at d;injection d with d;subst d;exact z
 ·rcases xg s with e|⟨e,rfl⟩<;>rcases xg d with k|⟨k,rfl⟩
  ·exact S.I r t q u j e k b g f
  ·exact i r q e b g f
  ·exact i t u k b f g
  ·exact j (e.b k.h)
 ·rcases xg e with e|⟨_,rfl⟩
  ·exact S.K r q e
  ·exact l
 ·exact (ze.g (dw (u5 ρ p) B)).e (S.J a) λq=>(JV.Ib A).JJ (c a q)
theorem FJ.R (S:FJ prog w base cls ρ σ h)(g:ρ.l[r]?=ah p)(s:∀b o,h.f b=ah o->b∉zj p->h'.f b=ah o)
  (v:zd prog w base cls h' ρ p o):FJ prog w base cls ρ (σ.w r o) h':=by
 have k:∀b a,h.f b=ah a->uK a->b∉zj p:=λb a e i m=>by
  refine bf (S.H (ky g m)) λt f n=>?_;have f:=e▸f;injection f with f;subst f;exact n i
 refine ⟨S.D.b bX.h,λj q u d c=>?_,S.I,S.K,S.J⟩;by_cases l:r=j
 ·subst l;have d:=g▸d;injection d with d;subst d;have c:=(gT (dw S.D (a7.g g).1))▸c;injection c with c;subst c;exact v
 ·have c:=bA l▸c;exact (S.G j q u d c).RU (λb a e i=>s b a e (k b a e i)) (iV.g.d _) λb a x e=>s b a e λm=>S.I r j p q l g d b m x
end
open PySem PySem.Calls PyProof.Rows
structure Fm where
 t:ft
 k:uP
 L:eH
 a:eH
 r:bz
 n:ao (ft×eH)
noncomputable def Fm.j (f:Fm):Ob:={scope:=f.k,locals:=f.L,globals:=dv,cells:=f.n,qual:=f.t++".<locals>.",func:=ah f.a,code:=f.r,frame:=ah f.L,builtins:=j1}
def Fm.l (f:Fm):eH->Prop:=λb=>b=f.L\/∃x,f.n.j x=ah b
structure gp (f:Fm)(vars:ao ft):Prop where
 a:f.k.mC=.L
 g:∀x∈vars,f.j.Q x=ah .F\/(f.j.Q x=ah .cell/\∃c,f.n.j x=ah c)
 j:vars.kl
 i:∀x y c,f.n.j x=ah c->f.n.j y=ah c->x=y
 b:∀x c,f.n.j x=ah c->c≠f.L
 d:∀x∈vars,(x==("__debug__" : ft))=aw
def Fm.p (f:Fm)(h:eI)(x:ft)(v:bz):Prop:=
 (f.j.Q x=ah .F/\∃m,h.Ns f.L m/\m x=ah v)\/(f.j.Q x=ah .cell/\∃c,f.n.j x=ah c/\h.IsCell c (ah v))
noncomputable def dF (l:ao Ob):ao eH:=l.jB (·.frame)
section
variable (prog:jk)(w:lA)(base:eI)(cls:aB->aJ eH)
structure St (f:Fm)(vars:ao ft)(outer:ao Ob)(ρ:iV)(e:Ev)(σ:a8)(h:eI):Prop where
 E:base.jC h
 K:FJ prog w base cls ρ σ h
 ns:∃m,h.Ns f.L m
 Yg:∀x c,f.n.j x=ah c->∃v,h.IsCell c v
 ev:∀i a,e i=ah a->∃x v,vars[i]?=ah x/\f.p h x v/\RV base h ρ a v
 Vy:h.jD base (f.j::outer)
 Zz:∀b,f.l b->b∉iL ρ
 Jd:∀b∈dF (f.j::outer),b∉iL ρ
 new:∀b,f.l b->base.f b=aq
 R:∀b∈dF (f.j::outer),∃o es n,h.f b=ah o/\o.U=.dict es n
def iF (s s':bH):Prop:=s'.gens=s.gens/\s'.drawn=s.drawn/\s'.os=s.os/\s.D<=s'.D
structure EAt (h:eI)(e:eH)(o:R1)(vs:rU bz):Prop where
 g:h.f e=ah o
 c:o.cls=.v "ValueError"
 d:o.U=.T vs
structure TAt (h₀ h:eI)(e:eH)(vs:rU bz)(T:eH)(o:R1)(ts:rU bz)(m:bz):Prop where
 f:vs[1]?=ah (.t T)
 n:h₀.f T=aq
 a:T≠e
 g:h.f T=ah o
 c:o.cls=.v "traceback"
 d:o.U=.T ts
 m:ts[3]?=ah m
structure TB (h₀ h:eI)(e:eH):Prop where
 j:h₀.f e=aq
 k:∃oe vs,EAt h e oe vs/\(vs[1]?=ah .s\/∃T oT ts,TAt h₀ h e vs T oT ts .s)
end
theorem iF.Ls (s:bH):iF s s:=fK af af af (au _)
theorem iF.hJ (x:iF s s')(y:iF s' a):iF s a:=fK (y.1.b x.1) (y.2.1.b x.2.1) (y.2.2.1.b x.2.2.1) (ab x.2.2.2 y.2.2.2)
theorem TB.i (x:TB a h e)(b:JV h₀ a):TB h₀ h e:=
 ⟨b.JJ x.1,x.2.I λf q=>q.I λc q=>⟨q.1,q.2.imp_right λq=>q.I λT q=>q.I λg q=>q.I λd q=>⟨q.f,b.JJ q.n,q.a,q.g,q.c,q.d,q.m⟩⟩⟩
theorem tK {base h h':eI}(k:∀b o,h.f b=ah o->(∀vs,o.U≠.T vs)->∃a,h'.f b=ah a/\∀vs,a.U≠.T vs)(q:h.jD base l):h'.jD base l:=by
 induction l with
 |nil=>trivial
 |cons d l c=>exact dX q.1 (q.2.1.I λL q=>q.e λo q=>(k L o q.2.2.1 q.2.2.2).I λa z=>dX q.1 q.2.1 z) (c q.2.2)
section
variable {prog:jk}{w:lA}{base:eI}{cls:aB->aJ eH}{f:Fm}{vars:ao ft}{outer:ao Ob}{ρ ρ':iV}{e:Ev}{σ σ':a8}{h h':eI}
theorem Fm.p.adJ (q:f.p h x v)(e:∀b o,f.l b->h.f b=ah o->∃d,h'.f b=ah {o with slots:=d}):f.p h' x v:=
 q.I (λq=>⟨q.1,q.2.I λm q=>⟨q.1.e λo q=>q.e λg q=>q.e λi q=>(e _ _ (.C af) q.1).e λd a=>FC _ g i a q.2,q.2⟩⟩)
  λq=>⟨q.1,q.2.I λc q=>⟨q.1,q.2.e λo z=>(e _ _ (.y ⟨x,q.1⟩) z.1).e λd a=>bQ _ a z.2⟩⟩
theorem St.Su {d:eH->Prop}(S:St prog w base cls f vars outer ρ e σ h)(r:ρ.g ρ')(t:z6 h h')(H:∀a∈iL ρ',a∈iL ρ\/h.f a=aq)(p:∀b o,h.f b=ah o->b∉iL ρ->¬ d b->∃k,h'.f b=ah {o with slots:=k})(s:∀b,d b->¬ f.l b/\b∉dF (f.j::outer))(j:base.jC h')(T:FJ prog w base cls ρ' σ' h'):St prog w base cls f vars outer ρ' e σ' h':=by
 have G:∀b o,f.l b->h.f b=ah o->∃k,h'.f b=ah {o with slots:=k}:=λb o q u=>p b o u (S.Zz b q) λw=>(s b w).1 q;have N:∀b,b∉iL ρ->(∃o,h.f b=ah o)->b∉iL ρ':=λb n u m=>(H b m).e n λq=>u.e λo u=>ba q u;refine ⟨j,T,?_,λx c y=>?_,λi a ei=>?_,?_,λb q=>N b (S.Zz b q) ?_,λb q=>N b (S.Jd b q) ?_,S.new,λb q=>?_⟩
 ·exact S.ns.I λm q=>q.e λo q=>q.e λA q=>q.e λO q=>(G _ _ (.C af) q.1).e λk g=>FC _ A O g q.2
 ·exact (S.Yg x c y).I λv q=>q.e λo q=>(G _ _ (.y ⟨x,y⟩) q.1).e λk g=>bQ _ g q.2
 ·exact (S.ev i a ei).I λx q=>q.I λv q=>dX q.1 (q.2.1.adJ G) (RV.yz t r _ _ q.2.2)
 ·have:∀{l:ao Ob},(∀b∈dF l,b∉iL ρ/\¬ d b)->h.jD base l->h'.jD base l:=by
   intro l
   induction l with
   |nil=>intro _ _;trivial
   |cons Z M P=>
    intro D X;refine vf X λF J V=>?_;refine oh J λL o I W B Y=>?_;obtain ⟨k,g⟩:=p L o B (D L (by simp [dF,I])).1 (D L (by simp [dF,I])).2;exact ⟨F,yg L _ I W g Y,P (λb j=>D b (by
     unfold dF at j ⊢;refine aA mL ?_;split
     ·exact j
     ·exact de _ j)) V⟩
  exact this (λb j=>⟨S.Jd b j,λw=>(s b w).2 j⟩) S.Vy
 ·exact q.e (λq=>q▸S.ns.e λm q=>q.I λo q=>q.e λA q=>q.e λO q=>q.1) λq=>q.e λx y=>(S.Yg x b y).e λv q=>q.I λo q=>q.1
 ·obtain ⟨_,o,s,_⟩:=S.Vy.mem q;exact ⟨o,s⟩
 ·exact (S.R b q).e λo z=>z.e λA z=>z.e λn z=>(p b o z.1 (S.Jd b q) λw=>(s b w).2 q).e λk C=>FC _ A n C z.2
theorem St.G9 (S:St prog w base cls f vars outer ρ e σ h)(P:qo (dF (f.j::outer)) a ρ h ρ' h')(d:∀b,a b->¬ f.l b/\b∉dF (f.j::outer))(g:base.jC h')(c:FJ prog w base cls ρ' σ' h'):St prog w base cls f vars outer ρ' e σ' h':=
 S.Su P.J P.B P.H P.N d g c
theorem St.DB (S:St prog w base cls f vars outer ρ e σ h)(P:qo (dF (f.j::outer)) wR ρ h ρ' h')(b:base.jC h')(a:FJ prog w base cls ρ' σ' h'):St prog w base cls f vars outer ρ' e σ' h':=
 S.G9 P (λz q=>q.e) b a
theorem oH (c:base.jC h)(k:Kp h h'):base.jC h':=λb a e=>k b a (c b a e)
theorem St.U (S:St prog w base cls f vars outer ρ e σ h)(a:Kp h h'):St prog w base cls f vars outer ρ e σ h':=
 S.DB (qo.D a) (oH S.E a) (S.K.L a.imm λb o z e=>a b o e)
theorem St.tok (S:St prog w base cls f vars outer ρ e σ h)(x:Tx)(a:ρ.d t=aq):St prog w base cls f vars outer (ρ.i t x) e σ h:=
 S.DB (qo.U x a) S.E (S.K.P x a)
theorem St.Sv (S:St prog w base cls f vars outer ρ e σ h)(o:R1)(m)(a:zd prog w base cls (h.push o) (ρ.f (h.q.k,aq)) (h.q.k,aq) m) :
  St prog w base cls f vars outer (ρ.f (h.q.k,aq)) e (σ++[m]) (h.push o):=
 S.DB (qo.Q o) (oH S.E (Kp.w5 o)) (S.K.N S.E (Kp.w5 o) m YN (eC.i ⟨dm,jz⟩) a)
theorem St.upd (S:St prog w base cls f vars outer ρ e σ h)(j:ρ.l[r]?=ah p)(k:a∈zj p)(d:gr a h h')(i:∃l,h'.f a=ah l)(m:zd prog w base cls h' ρ p o) :
  qo (dF (f.j::outer)) wR ρ h ρ h'/\St prog w base cls f vars outer ρ e (σ.w r o) h':=by
 have c:=ky j k;refine bf (S.K.H c) λt g s=>?_;have P:qo (dF (f.j::outer)) wR ρ h ρ h':=qo.R d i g s c;refine ⟨P,S.DB P (λb o e=>(d.2 b λq=>?_).b (S.E b o e)) (S.K.R j (λb o e n=>(d.2 b λq=>n (aA q k)).b e) m)⟩;exact ba (S.K.J a c) (dw q e)
end
section
variable {prog:jk}{w:lA}{base:eI}{cls:aB->aJ eH}{f:Fm}{vars:ao ft}{outer:ao Ob}{ρ ρ':iV}{e:Ev}{σ σ':a8}{s:bH}{A:k8}{EC:bz->bH->Prop}
theorem Dc (V:gp f vars)(S:St prog w base cls f vars outer ρ e σ s.c)(g:vars[i]?=ah x)(n:e i=ah a)
  (h:∀v,RV base s.c ρ a v->o v s):bc (rM prog w) A (loadName f.j x) o EC s:=by
 apply gl;intro p;refine mO (S.ev i a n) λy v b d r=>?_;have b:=g▸b;injection b with b;subst b;rcases d with ⟨k,m,j,d⟩|⟨k,c,l,d⟩
 ·exact fV V.a k j d (h v r)
 ·exact wpAny_loadName_cell V.a k l d (h v r)
structure Lr (f:Fm)(h h':eI)(b:eH)(x:ft)(v:bz):Prop where
 a:f.l b
 l:∃oa,h.f b=ah oa/\¬ uK oa
 g:gr b h h'
 p:∀y u,y≠x->f.p h y u->f.p h' y u
 q:f.p h' x v
 k:∃m,h'.Ns f.L m
 i:∀y c,f.n.j y=ah c->∃v,h'.IsCell c v
 d:∃o',h'.f b=ah o'/\∀vs,o'.U≠.T vs
 j:(∃o es n,h.f b=ah o/\o.U=.dict es n)->∃o es n,h'.f b=ah o/\o.U=.dict es n
theorem Aa {h h':eI}(V:gp f vars)(S:St prog w base cls f vars outer ρ e σ h)(r:vars[i]?=ah x)(t:RV base h ρ a v)(H:Lr f h h' b x v) :
  qo (dF (f.j::outer)) f.l ρ h ρ h'/\St prog w base cls f vars outer ρ (bu e i a) σ h':=by
 have P:qo (dF (f.j::outer)) f.l ρ h ρ h':=H.l.e λD q=>qo.X H.g (H.d.I λ_ z=>z.1) q.1 q.2 H.a;have l:∀{c o},h.f c=ah o->c≠b->h'.f c=ah o:=fun {c o} d n=>(H.g.2 c n).b d;refine ⟨P,⟨λc o d=>l (S.E c o d) λq=>ba (S.new b H.a) (dw q d),S.K.L P.B λc o g d=>l d λq=>S.Zz b H.a (dw q g),H.k,H.i,λj s k=>?_,tK (λc o d A=>?_) S.Vy,S.Zz,S.Jd,S.new,λc g=>?_⟩⟩
 ·have k:kr (aM j i) (ah a) (e j)=ah s:=k;revert k;cases p:aM j i with
  |true=>exact λk=>jf x v (aA (aD p) r) H.q (dw (aK k) (P.s t))
  |false=>
   refine λk=>(S.ev j s k).I λy q=>q.I λu q=>dX q.1 (H.p y u (λz=>?_) q.2.1) (P.s q.2.2);have C:=a7.g r;have B:=a7.g (z▸q.1);rw [(List.getElem_inj V.j).g (B.2.b C.2.h),gU] at p;injection p
 ·by_cases g:c=b
  ·exact aA g H.d
  ·exact bQ o (l d g) A
 ·by_cases m:c=b
  ·exact m▸H.j (dw m (S.R c g))
  ·exact (S.R c g).I λo z=>z.I λF z=>z.I λn z=>⟨l z.1 m,z.2⟩
theorem Dm (h:o.U=.dict c n):¬ uK o:=λq=>by
 rcases q with ⟨_,a,n,q⟩|⟨_,b,q⟩<;>(have q:=h▸q;injection q)
theorem KV (h:o.U=.cell v):¬ uK o:=λq=>by
 rcases q with ⟨_,a,n,q⟩|⟨_,b,q⟩<;>(have q:=h▸q;injection q)
theorem Io (V:gp f vars)(S:St prog w base cls f vars outer ρ e σ s.c)(W:vars[i]?=ah x)(hv:RV base s.c ρ a v)
  (h:∀s',iF s s'->qo (dF (f.j::outer)) f.l ρ s.c ρ s'.c->St prog w base cls f vars outer ρ (bu e i a) σ s'.c->QC () s') :
  bc (rM prog w) A (storeName f.j x v) QC EC s:=by
 apply gl;intro N;rcases V.g x (eQ W) with k|⟨k,c,l⟩
 ·obtain ⟨m,M⟩:=S.ns;refine mA k M (λh' t j=>?_) (by show (f.k.mC==.class||(f.k.mC==.module&&f.L != dv))=aw;exact aA V.a af);have H:Lr f s.c h' f.L x v:=by
   refine IQ (id M) λoL es ep r B L=>?_;refine IQ (id t) λD es' ep' b d _=>?_;refine ⟨.C af,bQ oL r (Dm B),j,λy u T Y=>Y.I (λz=>⟨z.1,_,t,?_⟩) λz=>⟨z.1,z.2.I λc z=>⟨z.1,z.2.I λo q=>⟨(j.2 c (V.b y c z.1)).b q.1,q.2⟩⟩⟩,
    .C ⟨k,_,t,c7 af⟩,⟨_,t⟩,λy c l=>(S.Yg y c l).I λu q=>q.I λo q=>⟨(j.2 c (V.b y c l)).b q.1,q.2⟩,bQ D b (λvs q=>by have q:=d▸q;injection q),λ_=>FC D es' ep' b d⟩
   apply gl;intro N;obtain ⟨_,m',⟨O,es1,ep1,C,J,_,q3⟩,X⟩:=z;have C:=r▸C;injection C with C;subst C;rw [B] at J;injection J with J;subst J;show (if y=x then ah v else m y)=ah u
   refine aA (dA T) ?_;rw [← L.2,q3];exact X
  have F:=Aa V S W hv H;exact h _ (fK af af af (by first|exact au _|exact bh _)) F.1 F.2
 ·apply gl;intro N;refine l6 (S.Yg x c l) λv₀ o r B=>?_;refine wpAny_storeName_cell V.a k l (bQ o r B) λh' t j=>?_;have G:=gJ (V.b x c l);have H:Lr f s.c h' c x v:=by
   apply gl;intro N;refine bf (id t) λP b d=>?_;refine ⟨.y ⟨x,l⟩,bQ o r (KV B),j,λy u T Y=>Y.I (λz=>⟨z.1,z.2.I λm q=>⟨q.1.sameBut j G,q.2⟩⟩) λz=>⟨z.1,z.2.I λI q=>⟨q.1,q.2.I λO z=>⟨(j.2 I λe=>T (V.i y x c (dw e q.1) l)).b z.1,z.2⟩⟩⟩,
    .y ⟨k,c,l,P,b,d⟩,S.ns.I λm M=>M.sameBut j G,λy I Z=>?_,bQ P b (λvs q=>by have q:=d▸q;injection q),λq=>?_⟩
   ·by_cases L:I=c
    ·exact aA L (fF _ P b d)
    ·exact (S.Yg y I Z).I λu q=>q.I λO q=>⟨(j.2 I L).b q.1,q.2⟩
   ·apply gl;intro N;refine K2 q λO es n g p=>?_;have g:=r▸g;injection g with g;subst g;have p:=B▸p;injection p
  have F:=Aa V S W hv H;exact h _ (fK af af af (by first|exact au _|exact Nat.le_succ _)) F.1 F.2
end
open PySem PySem.Calls PyProof.Rows
structure N8 (h₀ h:eI)(e:eH)(m:bz):Prop where
 j:h₀.f e=aq
 i:∃oe vs T oT ts,EAt h e oe vs/\TAt h₀ h e vs T oT ts m
theorem N8.g (x:N8 h₀ h e .s):TB h₀ h e:=
 ⟨x.1,x.2.I λd q=>q.I λc q=>q.e λT q=>q.e λb q=>q.e λa q=>⟨q.1,.y (UZ T b a q.2)⟩⟩
structure oY (F:ao eH)(h₀ h h':eI):Prop where
 r:JV h h'
 p:∀b o,h.f b=ah o->((∃o',h₀.f b=ah o')\/(o.cls≠.v "ValueError"/\o.cls≠.v "traceback"))->(b∉F->h'.f b=ah o)/\∃sl,h'.f b=ah {o with slots:=sl}
theorem oY.t (x:oY F h₀ h h')(y:oY F h₀ h' a):oY F h₀ h a:=by
 refine ⟨x.r.ED y.r,λb o e c=>?_⟩;have k:=x.p b o e c;exact ⟨λn=>(y.p b o (k.1 n) c).1 n,k.2.e λf d=>(y.p b _ d c).2⟩
theorem oY.v (g:R1->R1) (l:h₀.f a=aq) (f:h.f a=ah o) (j:(g o).isFreed=aw) (k:o.cls=.v "ValueError"\/o.cls=.v "traceback"):oY F h₀ h (h.update a g):=by
 refine ⟨JV.but (hX ..) ⟨_,lI g f j⟩,λb i e c=>?_⟩;have d:b≠a:=λq=>by
  subst q;have e:=f▸e;injection e with e;subst e;exact c.e (λc=>c.e λz c=>ba l c) λc=>k.e c.1 c.2
 have:=gQ h g (gJ d);exact ⟨λz=>this.b e,i.slots,this.b e⟩
theorem oY.C (o:R1):oY F h₀ h (h.push o):=⟨JV.Ib (Kp.w5 o),λz a e z=>⟨λz=>bE _ e,a.slots,bE _ e⟩⟩
theorem oY.D (x:Heap.SlotsOnly F h h'):oY F h₀ h h':=
 ⟨λb o e=>let ⟨c,a⟩:=x.2.2 b o e;⟨_,a⟩,λb o e z=>⟨λn=>(x.2.1 b n).b e,x.2.2 b o e⟩⟩
section
variable {M:Model}{A:k8}{E:bz->bH->Prop}{s:bH}{base h₀:eI}{env:Ob}{outer:ao Ob}{L e:eH}
theorem qK (x:N8 h₀ s.c e m)(h:∀h',N8 h₀ h' e .s->oY F h₀ s.c h'->Q () {s with heap:=h'}):bc M A (setFlight (.t e) aq) Q E s:=by
 obtain ⟨n,g,d,T,i,f,y,z⟩:=x;have a:3<f.k:=(jv.g z.m).1;unfold setFlight;refine aG (nj y.g y.d z.f ?_);refine aA (c7 (show (wC T != fW)=ax from by simp)) ?_;have c:=uQ z.d (·.jX 3 fW);have b:=lT c;refine EJ z.g z.d a (h _ ⟨n,g,d,T,_,_,⟨?_,y.c,y.d⟩,z.f,z.n,z.a,lI _ z.g b,(Obj.cls_mapFields ..).b z.c,c,by simp [Array.getElem?_setIfInBounds,a]⟩ (oY.v _ z.n z.g b (.y z.c)));refine aA (gQ _ _ z.a) ?_;exact y.g
theorem zO (e:s.c.jD base l)(g:s.c.f a=ah o)(f:o.U=.T vs):a∉dF l:=λd=>by
 obtain ⟨_,h,b,c⟩:=e.mem d;have b:=g▸b;injection b with b;subst b;exact c vs f
theorem Aj
  (u:A.frames=ah (env::outer)) (x:s.c.jD base (env::outer)) (C:env.frame=ah L) (D:JV h₀ s.c) (w:h₀.f e=aq)
  (y:s.c.f e=ah r) (z:r.cls=.v "ValueError") (v:r.U=.T vs) (k:1<vs.k)
  (h:∀h',N8 h₀ h' e (A7 L)->oY (dF (env::outer)) h₀ s.c h'->Q () {s with heap:=h'}) :
  bc M A (do setField (.t e) 1 (← EntryCells.newEntry i (← frameOf env) .s (A7 L) .s (← entryPlaceOf L m))) Q E s:=by
 refine aG (wpAny_frameOf_fun u x C λa c=>?_);refine sE ?_;intro B;refine aG (wpAny_entryPlaceOf λp t=>?_);unfold EntryCells.newEntry JL;refine aG (jM ?_ (t.sizeOk5 _ _ _ _ _));have g:a.f e=ah r:=(c.2.1 e (zO x y v)).b y;generalize j:({cls:=.v "traceback",dict:=aq,data:=.T ([i,.t L,.s,A7 L,.s]++(if p.isEmpty then cZ 6 fW else p)).N}:R1)=q
 have l:q.U=.T ([i,.t L,.s,A7 L,.s]++(if p.isEmpty then cZ 6 fW else p)).N:=dw j af
 have d:=bE (h:=a) q g;refine sE ?_;intro B;refine EJ d v k ?_;have n:a.q.k≠e:=dW (dU g);have f:=uQ v (·.jX 1 (wC a.q.k));refine h _ ⟨w,_,_,a.q.k,q,_,⟨lI _ d (lT f),(Obj.cls_mapFields _ _).b z,f⟩,by simp [k],(D.ED (λb o e=>let ⟨G,F⟩:=c.2.2 b o e;⟨_,F⟩)).JJ (mf (au _)),n,?_,(dw j af),l,by simp⟩ ?_
 ·refine aA (gQ _ _ (gJ n)) ?_;exact bY _ (dw j af)
 ·exact ((oY.D c).t (oY.C q)).t (oY.v _ w d (lT f) (.C z))
theorem v5 (a:A.frames=ah (env::outer))(g:s.c.jD base (env::outer))(d:env.frame=ah L)(j:JV h₀ s.c)(x:TB h₀ s.c e)
  (h:∀h',N8 h₀ h' e (A7 L)->oY (dF (env::outer)) h₀ s.c h'->Q () {s with heap:=h'}):bc M A (noteFrame (.t e) env) Q E s:=by
 obtain ⟨n,r,m,y,b⟩:=x;unfold noteFrame;simp only [d];refine gl ?_;intro u;rcases b with b|⟨T,t,p,z⟩
 ·refine aG (nj y.g y.d b ?_);refine aA (dA (by decide)) ?_;exact Aj a g d j n y.g y.c y.d (jv.g b).1 h
 ·refine aG (nj y.g y.d z.f ?_);refine aA (c7 (show (wC T != fW)=ax from by simp)) ?_;refine aG (nj z.g z.d z.m ?_);refine aA (dA (show ¬ ((fW==A7 L)=ax) from by simp [A7])) ?_;refine aG (EJ z.g z.d (jv.g z.m).1 ?_);have N:=oY.v (F:=dF (env::outer)) (Obj.mapFields (·.jX 3 fW)) z.n z.g (lT (uQ z.d _)) (.y z.c);refine Aj (base:=base) (s:={s with heap:=s.c.update T (Obj.mapFields (·.jX 3 fW))}) a (tK (λc o f i=>bQ o ((gQ _ _ λq=>?_).b f) i) g) d (j.ED N.r) n ((gQ _ _ z.a).b y.g) y.c y.d (jv.g z.f).1 λh' k l=>h h' k (N.t l);rw [← q,z.g] at f;exact i _ (dw (aK f) z.d)
theorem Bo (b:A.frames=ah (env::outer))(f:s.c.jD base (env::outer))(g:env.frame=ah L)(i:JV h₀ s.c)(x:TB h₀ s.c e)
  (h:∀h',TB h₀ h' e->oY (dF (env::outer)) h₀ s.c h'->Q () {s with heap:=h'}):bc M A (leaving env (.t e)) Q E s:=by
 unfold leaving;refine aG (v5 b f g i x λh' d N=>?_);exact qK d λc a j=>h c a.g (N.t j)
end
section
variable {prog:jk}{w:lA}{base:eI}{cls:aB->aJ eH}{f:Fm}{vars:ao ft}{outer:ao Ob}{ρ ρ₀:iV}{e:Ev}{σ:a8}{h h' h₀:eI}
theorem oY.B (N:oY F h₀ h h')(c:∀b∈F,∀o,h.f b=ah o->¬ uK o):∀b o,h.f b=ah o->uK o->h'.f b=ah o:=λb o a i=>
 (N.p b o a (.y (by rcases i with ⟨i,_⟩|⟨i,_⟩<;>rw [i]<;>simp))).1 λm=>c b m o a i
theorem oY.u (N:oY F h₀ h h')(c:∀b∈F,∀o,h.f b=ah o->¬ uK o)(P:qo F own ρ₀ h₀ ρ h):qo F own ρ₀ h₀ ρ h':=by
 refine ⟨P.J,P.H,P.E.ED N.r,λb o a i=>N.B c b o (P.B b o a i) i,λb o a n w f=>(N.p b o (P.I b o a n w f) (.C ⟨o,a⟩)).1 f,λb o a n w=>?_⟩;exact (P.N b o a n w).e λe d=>(N.p b _ d (.C ⟨o,a⟩)).2
theorem lF (f:∀b∈dF l,∃o d n,h.f b=ah o/\o.U=.dict d n):∀b∈dF l,∀o,h.f b=ah o->¬ uK o:=λb g o e i=>by
 refine K2 (f b g) λj d n a c=>?_;have a:=e▸a;injection a with a;subst a;exact Dm c i
end
open PySem PySem.Calls PyProof.Rows PySem.SeqAt
theorem xf (a b):(dq a==dq b)=bT a b:=by
 cases h:bT a b with
 |true=>exact dw (gj.g h) (kh _)
 |false=>exact dR.i λq=>by have h:=gj.i (pC q)▸h;injection h
theorem mM (a b):dq a++dq b=dq (a++b):=by
 show Str.append (dq a) (dq b)=_;simp [dq,Str.append]
theorem dD (a):(dq a).a=a.a:=af
theorem Ah (e:si (a::as) (b::bs)=ah r):∃p q,xP a b=ah p/\si as bs=ah q/\(p&&q)=r:=by
 have e:(match xP a b,si as bs with
  |some x,ah y=>ah (x&&y)
  |_,_=>aq)=ah r:=e
 revert e;cases xP a b with
 |none=>intro e;injection e
 |some p=>
  cases si as bs with
  |none=>intro e;injection e
  |some q=>intro e;injection e with e;subst e;exact jf p q af af af
noncomputable def X8:AV->aB
 |.h=>0
 |.g _=>1
 |.d _=>2
 |.c _=>3
 |.f _=>4
 |_=>5
noncomputable def X7:bz->aB
 |.s=>0
 |.bool _=>1
 |.O _ _=>2
 |.str _ _=>3
 |_=>4
section
variable {base h:eI}{ρ:iV}{v:bz}{P:bz->Prop}
theorem elN (q:RV base h ρ .h v)(k:P .s):P v:=aA q k
theorem elB (q:RV base h ρ (.g b) v)(k:P (.bool b)):P v:=aA q k
theorem elI (q:RV base h ρ (.d i) v)(k:∀t,P (.O i t)):P v:=lU q λt e=>aA e (k t)
theorem Zf (q:RV base h ρ (.c x) v)(k:∀t,P (.str (dq x) t)):P v:=lU q λt e=>aA e.1 (k t)
theorem elT (q:RV base h ρ (.f l) v)(k:∀a b,Vx h a b->iM base h ρ l b.u->P (.t a)):P v:=lU q λa q=>q.e λb q=>aA q.1 (k a b q.2.1 q.2.2.1)
theorem Se (q:RV base h ρ a v)(c:aM (X8 a) 5=aw):X7 v=X8 a:=by
 cases a with
 |h=>exact elN (P:=λv=>X7 v=0) q af
 |g b=>exact elB (P:=λv=>X7 v=1) q af
 |d i=>exact elI (P:=λv=>X7 v=2) q λz=>af
 |c x=>exact Zf (P:=λv=>X7 v=3) q λz=>af
 |f l=>exact elT (P:=λv=>X7 v=4) q λz z z z=>af
 |_=>injection c
theorem Sf {G:Prop}(x:RV base h ρ a v)(y:RV base h ρ b v)(e:aM (X8 a) 5=aw)(d:aM (X8 b) 5=aw)(c:aM (X8 a) (X8 b)=aw):G:=by
 rw [← Se x e,← Se y d,gU] at c;injection c
set_option tactic.hygienic true in
theorem It:∀(a:AV) b v r,RV base h ρ a v->RV base h ρ b v->xP a b=ah r->r:=by
 intro a
 induction a using AV.rec (motive_2:=λB=>∀k j r,iM base h ρ B j->iM base h ρ k j->si B k=ah r->r) with
 |h=>
  intro b v r f d e;cases b with
  |h=>exact (aK e).h
  |_=>exact ba af e
 |g x=>
  intro b v r f d e;cases b with
  |g y=>
   have q:=f.h.b d;exact (aK e).h.b (j0.i (Value.bool.inj q))
  |_=>exact ba af e
 |d x=>
  intro b v r f d e;cases b with
  |d y=>
   obtain ⟨t,p⟩:=f;obtain ⟨u,q⟩:=d;exact (aK e).h.b (bF (Value.int.inj (p.h.b q)).1)
  |c y=>exact Sf f d af af af
  |_=>exact ba af e
 |c x=>
  intro b v r f d e;cases b with
  |c y=>
   refine bf f λt p _=>?_;refine bf d λu q _=>?_;exact (aK e).h.b (gj.i (pC (Value.str.inj (p.h.b q)).1))
  |_=>exact ba af e
 |f A F=>
  intro b v r f d e;cases b with
  |f m=>
   refine oh f λl s p g C _=>?_;obtain ⟨n,G⟩:=g;refine oh d λO items' q g o _=>?_;obtain ⟨n',i⟩:=g;injection p.h.b q with D;subst D;have i:=G▸i;cases i;exact F m _ r C o e
  |c y=>exact Sf f d af af af
  |_=>exact ba af e
 |e r=>intro b v r f d e;exact ba af e
 |k a b c=>intro b v r f d e;exact ba af e
 |j a=>intro b v r f d e;exact ba af e
 |l a=>intro b v r f d e;exact ba af e
 |nil=>
  rename_i k j r f d e
  cases k with
  |nil=>exact (aK e).h
  |cons=>exact iM.nl (P:=λl=>iM base h ρ (_::_) l->r) f (λd=>lU d λ_ q=>q.e λ_ q=>by injection q.1) d
 |cons x A w z=>
  rename_i k j r f d e
  cases k with
  |nil=>exact iM.nl (P:=λl=>iM base h ρ (x::A) l->r) d (λd=>lU d λ_ q=>q.e λ_ q=>by injection q.1) f
  |cons y m=>
   revert d;refine iM.el (P:=λl=>iM base h ρ (y::m) l->r) f λv j I H d=>?_;refine mO d λv' vs' q L J=>?_;cases q;refine mO (Ah e) λp q N M g=>?_;subst g;refine aA (w y v p I L N) (aA (z m j q H J M) ?_);rfl
end
section
variable {base:eI}{ρ:iV}{s:bH}
def qh (A:k8)(s:bH)(b a:bz)(r:bC):Prop:=EqAt A s b a r/\RcAt A s b a r/\RcNeAt A s b a (!r)
theorem Zk (h:n+m<uO):n<uO:=aQ (ak _ _) h
theorem Lo (f:aB->bC)(n):(ew (n+1)).oG f=(f 0&&(ew n).oG λj=>f (j+1)):=by
 refine aA List.range_succ_eq_map (aA List.all_cons (aA List.all_map ?_));rfl
theorem Yb {P:bC->Prop}(e:ah a=ah r)(p:P a):P r:=dw (aK e) p
set_option tactic.hygienic true in
theorem Vk:∀a b A m d r,xP a b=ah r->RV base s.c ρ a m->RV base s.c ρ b d->A.units+a.m<uO->qh A s m d r:=by
 intro a
 induction a using AV.rec (motive_2:=λX=>∀G A n i r,si X G=ah r->iM base s.c ρ X n->iM base s.c ρ G i->A.units+AV.m.Cz X<uO->
   ∃e:aB->bC,(∀j (B:j<n.a) (C:j<i.a),EqAt A s n[j] i[j] (e j))/\((ew (jd n.a i.a)).oG e&&(n.a==i.a))=r) with
 |h=>
  intro b A m d r e o f z;apply elN o;apply gl;intro W;cases b with
  |h=>exact elN (P:=λd=>qh A s .s d r) f (Yb e (dX (Oa _) RcAt.none_none RcNeAt.none_none))
  |_=>exact ba af e
 |g x=>
  intro b A m d r e o f z;apply elB o;apply gl;intro W;cases b with
  |g y=>exact elB (P:=λd=>qh A s (.bool x) d r) f (Yb e (dX (EqAt.bool_bool _ _) (RcAt.bool_bool _ _) (RcNeAt.bool_bool _ _)))
  |_=>exact ba af e
 |d x=>
  intro b A m d r e o f z;refine elI (P:=λm=>qh A s m d r) o (λt=>?_);cases b with
  |d y=>exact elI (P:=λd=>qh A s (.O x t) d r) f (λM=>(Yb e (dX (EqAt.int_int _ _ _ _) (RcAt.int_int _ _ _ _) (RcNeAt.int_int _ _ _ _))))
  |c y=>exact Zf (P:=λd=>qh A s (.O x t) d r) f (λM=>(Yb e (dX (EqAt.int_str _ _ _ _) (RcAt.int_str _ _ _ _) (RcNeAt.int_str _ _ _ _))))
  |_=>exact ba af e
 |c x=>
  intro b A m d r e o f z;refine Zf (P:=λm=>qh A s m d r) o (λt=>?_);cases b with
  |c y=>exact Zf (P:=λd=>qh A s (.str (dq x) t) d r) f (λM=>(Yb ((aW ah (xf x y)).b e) (dX (EqAt.str_str _ _ _ _) (RcAt.str_str _ _ _ _) (RcNeAt.str_str _ _ _ _))))
  |_=>exact ba af e
 |f Y ih=>
  intro b A m d r e o f z;refine elT (P:=λm=>RV base s.c ρ (.f Y) m->qh A s m d r) o (λl u F rs o=>?_) o;have F:=F.JP;apply gl;intro W;cases b with
  |c y=>exact Zf (P:=λd=>qh A s (.t l) d r) f (λM=>(Yb e (dX (EqAt.tuple_str _ _ F (Zk z)) (RcAt.tuple_str _ _ F (Zk z)) (RcNeAt.tuple_str _ _ F (Zk z)))))
  |f H=>
   refine elT (P:=λd=>RV base s.c ρ (.f H) d->qh A s (.t l) d r) f (λO k I N f=>?_) f;refine bf (ih H A.in1 u.u k.u r e rs N (aQ (aV ((bW ..).b (aW (A.units+·) (cv 1 _)))) z)) λg L hr=>?_;have B:=RcAt.tuples F I.JP (Zk z) λj B C=>L j B C;have C:=RcNeAt.tuples F I.JP (Zk z) λj B C=>L j B C;rw [show ((ew (jd u.k k.k)).oG g&&(u.k==k.k))=r from hr] at B C;refine dX ?_ B C;by_cases Z:l=O
   ·subst Z;exact aA (It _ _ _ _ o f e) (Oa _)
   ·exact EqAt.of_refs Z B
  |_=>exact ba af e
 |e r=>intro b A m d r e;exact ba af e
 |k a b c=>intro b A m d r e;exact ba af e
 |j a=>intro b A m d r e;exact ba af e
 |l a=>intro b A m d r e;exact ba af e
 |nil=>
  rename_i G A n i r e o f z
  obtain rfl:n=[]:=o;refine bQ (λ_=>ax) (λj B=>bZ B (fL _)) ?_;cases G with
  |nil=>obtain rfl:i=[]:=f;exact aK e
  |cons y H=>obtain ⟨v,J,rfl,_⟩:=f;exact (aA (Nat.zero_min _) (aK e))
 |cons x Y T V=>
  rename_i G A n i r e o f z
  apply gl;intro W;refine mO o λv J w B C=>?_;subst w;cases G with
  |nil=>
   obtain rfl:i=[]:=f;exact bQ (λ_=>ax) (λj _ C=>bZ C (fL _)) (aK e)
  |cons y H=>
   refine mO f λv' D w g1 g2=>?_;subst w;refine mO (Ah e) λp q e1 e2 w=>?_;subst w;refine bf (V H A J D q e2 C g2 (aQ (ar (cJ _ _) _) z)) λg L w=>?_;subst w;refine bQ (λj=>d6 j p g) (λj=>?_) ?_
   ·cases j with
    |zero=>exact λ_ _=>((T y A v v' p e1 B g1 (aQ (ar (da _ _) _) z)).1)
    |succ j=>exact λl1 O=>L j (fZ l1) (fZ O)
   ·show ((ew (jd (J.a+1) (D.a+1))).oG _&&(J.a+1==D.a+1))=_;rw [Nat.add_min_add_right,Lo,Bool.and_assoc];congr 2;exact gH.i ⟨λh=>j0.i (js (j0.g h)),λh=>j0.i (aW ix (j0.g h))⟩
end
open PySem PySem.Calls PyProof.Rows PySem.SeqAt
structure Cx where
 H:jk
 w:lA
 z:eI
 J:aB->aJ eH
 K:pn
 N:aB->aJ Tx
 f:Fm
 B:ao ft
 O:ao Ob
noncomputable abbrev Cx.M (c:Cx):Model:=rM c.H c.w
noncomputable abbrev Cx.F (c:Cx):ao eH:=dF (c.f.j::c.O)
structure CS (c:Cx)(ρ:iV)(e:Ev)(σ:a8)(s:bH):Prop extends St c.H c.w c.z c.J c.f c.B c.O ρ e σ s.c where
 j:0<s.D
 g:∀t,s.D<=t->ρ.d t=aq
 i:∀t x,c.N t=ah x->ρ.d t=ah x
abbrev Cx.S (c:Cx)(ρ:iV)(e:Ev)(σ:a8)(s:bH):Prop:=CS c ρ e σ s
abbrev Cx.P (c:Cx)(ρ:iV)(h:eI)(a:iV)(b:eI):Prop:=qo c.F wR ρ h a b
abbrev Cx.V (c:Cx)(h:eI)(ρ:iV)(a:AV)(v:bz):Prop:=RV c.z h ρ a v
def n4 (c:Cx)(e:Ev)(s:bH)(ρ:iV)(Q:QV)(QC:bz->bH->Prop):Prop:=
 ∀v f b a d,iF s f->c.P ρ s.c b f.c->c.S b e d f->c.V f.c b a v->Q a d->QC v f
def JI (c:Cx)(e:Ev)(s:bH)(ρ:iV)(X:QX)(EC:bz->bH->Prop):Prop:=
 ∀f d b a,iF s d->c.P ρ s.c b d.c->c.S b e a d->TB s.c d.c f->X a->EC (.t f) d
section
variable {c:Cx}{e:Ev}{s s₁:bH}{ρ ρ₁:iV}{Q:QV}{X:QX}{QC EC:bz->bH->Prop}
theorem n4.qg (H:n4 c e s ρ Q QC)(h:iF s s₁)(P:c.P ρ s.c ρ₁ s₁.c):n4 c e s₁ ρ₁ Q QC:=
 λv g d a b f j i r q=>H v g d a b (h.hJ f) (P.A j) i r q
theorem JI.tj (H:JI c e s ρ X EC)(g:iF s s₁)(P:c.P ρ s.c ρ₁ s₁.c):JI c e s₁ ρ₁ X EC:=
 λh f b a d j i x q=>H h f b a (g.hJ d) (P.A j) i (x.i P.E) q
theorem CS.l (S:c.S ρ e σ s)(h:s.D<=tk):c.S ρ e σ {s with toks:=tk}:=
 ⟨S.toSt,aS S.j h,λt a=>S.g t (ab h a),S.i⟩
theorem CS.k (S:c.S ρ e σ s)(f:St c.H c.w c.z c.J c.f c.B c.O ρ d a b):c.S ρ d a {s with heap:=b}:=
 ⟨f,S.j,S.g,S.i⟩
theorem CS.p (S:c.S ρ e σ s)(o):c.S ρ e σ {s with heap:=s.c.push o}:=S.k (S.toSt.U (Kp.w5 o))
theorem CS.r (S:c.S ρ e σ s)(x):c.S (ρ.i s.D x) e σ {s with toks:=s.D+1}:=
 ⟨S.toSt.tok x (S.g _ (au _)),cp _,λt b=>by
  have a:s.D+1<=t:=b;show (if t=s.D then ah x else ρ.d t)=aq
  exact aA (dA (dW a)) (S.g t (aT a)),λt y e=>(iV.g.i x (S.g _ (au _))).g t y (S.i t y e)⟩
theorem n4.zc (H:n4 c e s ρ Q QC)(S:c.S ρ e σ s)(r:c.V s.c ρ a v)(q:Q a σ)(b:s.D<=tk):QC v {s with toks:=tk}:=
 H v _ ρ a σ (fK af af af b) qo.G (S.l b) r q
theorem n4.mz (H:n4 c e s ρ Q QC)(S:c.S ρ e σ s)(r:c.V s.c ρ a v)(q:Q a σ):QC v s:=
 H v _ ρ a σ (fK af af af (au _)) qo.G S r q
theorem n4.Tz (H:n4 c e s ρ Q QC)(S:c.S ρ e σ s)(a:x.a<=gL)(q:Q (.c x) σ):QC (.str (dq x) s.D) {s with toks:=s.D+1}:=by
 exact H _ _ (ρ.i s.D x) (.c x) σ (fK af af af (bh _)) (qo.U x (S.g _ (au _))) (S.r x) (KU _ af a (dW S.j) (iV.j ..)) q
theorem n4.N4 (H:n4 c e s ρ Q QC)(S:c.S ρ e σ s)(r:iM c.z s.c ρ vs a.u)(b:vs.a<=gL)(q:Q (.e σ.a) (σ++[.a vs])) :
  QC (.t s.c.q.k) {s with heap:=s.c.push {cls:=.v "list",data:=.seq a}}:=by
 refine H _ _ (ρ.f (s.c.q.k,aq)) (.e σ.a) (σ++[.a vs]) (fK af af af (au _)) (qo.Q _) ⟨S.toSt.Sv _ _ ?_,S.j,S.g,S.i⟩ ?_ q
 ·refine ⟨af,a,⟨0,bY _ af⟩,?_,b⟩;exact (qo.Q (F:=c.F) (own:=wR) _).M r
 ·exact bQ (s.c.q.k,aq) af (dw S.K.D eJ)
theorem n4.N0 (H:n4 c e s ρ Q QC)(S:c.S ρ e σ s)(r:iM c.z s.c ρ vs a.u)(b:vs.a<=gL)(q:Q (.f vs) σ) :
  QC (.t s.c.q.k) {s with heap:=s.c.push {cls:=.v "tuple",data:=.seq a}}:=by
 refine H _ _ ρ (.f vs) σ (fK af af af (au _)) (qo.K _) (S.p _) ?_ q;exact yg _ a af ⟨0,bY _ af⟩ ((qo.K (F:=c.F) (own:=wR) _).M r) b
theorem Cx.S.kH (S:c.S ρ e σ s)(k:σ[r]?=ah (.a l))(j:c.V s.c ρ (.e r) v) :
  ∃p a n,v=.t p/\ρ.l[r]?=ah (p,aq)/\IsL s.c p a n/\iM c.z s.c ρ l a.u/\l.a<=gL:=by
 apply gl;intro q;refine bf j λf b g=>?_;obtain ⟨p,d⟩:=f;subst b;obtain ⟨o,a,⟨n,m⟩,h,i⟩:=S.K.G r _ _ g k;obtain rfl:=(o:d=aq);exact UY p a n af g m h i
theorem Cx.S.o4 (S:c.S ρ e σ s)(f:ρ.l[r]?=ah (p,aq))(d:IsL s.c p b n)(j:g b=a)
  (h:iM c.z s.c ρ l' a.u) (i:l'.a<=gL):c.P ρ s.c ρ (s.c.update p (n6 g))/\c.S ρ e (σ.w r (.a l')) {s with heap:=s.c.update p (n6 g)}:=by
 have P:c.P ρ s.c ρ (s.c.update p (n6 g)):=qo.R (hX ..) ⟨_,d.update g⟩ d (xV af).imm (ky f (og _));subst j;exact ⟨P,S.k (S.toSt.upd (o:=.a l') f (og _) (hX ..) ⟨_,d.update g⟩ ⟨af,_,⟨_,d.update g⟩,P.M h,i⟩).2⟩
end
theorem fx:gL<=ph:=by refine aA qw ?_;decide
set_option tactic.hygienic true in
theorem BC (b:a.o<2 ^ 1000):jl a<=1000:=by
 unfold jl;split
 ·exact bG _
 ·rename_i h
  exact (Nat.log2_lt λq=>h (by refine aA (Int.natAbs_eq_zero.g q) ?_;rfl)).i b
theorem Sd (d:a.o<2 ^ 1000)(c:b.o<2 ^ 1000):IntMulOk a b:=by
 have f:=BC d;have e:=BC c;unfold IntMulOk;have:Builtin.Int.intTooBig ((jl a:aU)+(jl b:aU))=aw:=by
  unfold Builtin.Int.intTooBig;exact dw bitsLine_eq (bR (dQ.i (ee (Int.add_le_add (cy.i f) (cy.i e)) (by decide))))
 refine aA this ?_;simp
set_option tactic.hygienic true in
theorem C6 (d:b.o<2 ^ 1000):Builtin.divisionGoesByPylong a b=aw:=by
 have c:=BC d;unfold jl at c;unfold Builtin.divisionGoesByPylong;have:¬ ((if b==0 then 0 else b.o.log2 / 30+1)>300):=by
  split
  ·decide
  ·rename_i h
   simp only [h] at c;simp at c;exact iZ.i (ab (az (Nat.div_le_div_right c)) (aa af))
 simp only [bR this,Bool.false_and]
theorem Ll (a):Builtin.bitAnd a 1=a.fmod 2:=by
 refine aA (n8 _ (by decide)) ?_;cases a with
 |ofNat n=>
  show ((n &&& 1:aB):aU)=((n%2:aB):aU);rw [Nat.and_one_is_mod]
 |negSucc n=>
  have e:(Builtin.bitNot (iU n)).p=n:=aW tf (cT (n:aU) 1);show (1:aU)-((1 &&& (Builtin.bitNot (iU n)).p:aB):aU)=Int.subNatNat 2 (n%2+1);refine aA e ?_;rw [Nat.and_comm,Nat.and_one_is_mod];rcases Nat.mod_two_eq_zero_or_one n with h|h<;>rw [h]<;>rfl
theorem gz:RV base h ρ (.d i) (.O i t):=⟨_,af⟩
theorem uX (a:x.a<=gL/\t≠0/\ρ.d t=ah x):RV base h ρ (.c x) (.str (dq x) t):=bQ _ af a
theorem jY:RV base h ρ (.g b) (.bool b):=af
theorem Bg:RV base h ρ .h .s:=af
theorem ye (h:jn v P):∃x,v=.d x/\P x:=by
 cases v<;>first|exact (bQ _ af h)|exact h.e
theorem xI (h:pA v P):∃x,v=.c x/\P x:=by
 cases v<;>first|exact (bQ _ af h)|exact h.e
theorem Fp (h:tB v P):∃x,v=.e x/\P x:=by
 cases v<;>first|exact (bQ _ af h)|exact h.e
theorem Be (h:CT v P):∃x,v=.f x/\P x:=by
 cases v<;>first|exact (bQ _ af h)|exact h.e
theorem rx (h:Dx v P):∃x,v=.g x/\P x:=by
 cases v<;>first|exact (bQ _ af h)|exact h.e
theorem Ku (h:Bj v P):∃x,v=[x]/\P x:=by
 cases v with
 |nil=>exact h.e
 |cons x r=>cases r with
  |nil=>exact bQ _ af h
  |cons _ _=>exact h.e
theorem hR (h:lh o P):∃x,o=ah x/\P x:=by
 cases o
 ·exact h.e
 ·exact bQ _ af h
theorem qJ (h:sP b P):b/\P:=by
 cases b
 ·exact h.e
 ·exact ⟨af,h⟩
set_option tactic.hygienic true in
theorem E0 (h:CQ e i P):∃x,e i=ah x/\P x:=by
 unfold CQ at h;split at h
 ·rename_i x q;exact bQ x q h
 ·exact h.e
theorem lk (h:kL r σ P):∃l,σ[r]?=ah (.a l)/\P l:=by
 unfold kL at h;exact h
theorem FG (h:IU r σ P):∃l,σ[r]?=ah (.d l)/\P l:=by
 unfold IU at h;exact h
section
open Builtin
end
section
variable {c:Cx}{e:Ev}{s:bH}{ρ:iV}{σ:a8}{Q:QV}{X:QX}{QC EC:bz->bH->Prop}{A:k8}
theorem i8 (p:jn a P)(r:RV base h ρ a v)(G:bz->Prop)(k:∀x t,P x->G (.O x t)):G v:=by
 refine bf (ye p) λx b p=>?_;subst b;obtain ⟨t,rfl⟩:=r;exact k x t p
theorem oc (p:Kt a b P)(r:RV base h ρ a v)(c:RV base h ρ b w)(G:bz->bz->Prop)(k:∀x t y u,P x y->G (.O x t) (.O y u)):G v w:=
 i8 p r (λv=>G v w) λx t p=>i8 p c (G (.O x t)) λy u p=>k x t y u p
def acT (ρ:iV)(x:Tx)(t:aB):Prop:=x.a<=gL/\t≠0/\ρ.d t=ah x
theorem sG (p:pA a P)(r:RV base h ρ a v)(G:bz->Prop)(k:∀x t,acT ρ x t->P x->G (.str (dq x) t)):G v:=by
 refine bf (xI p) λx b p=>?_;subst b;refine bf r λt b c=>?_;subst b;exact k x t c p
theorem od {G:Prop}(p:tB a P)(r:c.V s.c ρ a v)(k:∀x,c.V s.c ρ (.e x) v->P x->G):G:=by
 refine bf (Fp p) λx b p=>?_;subst b;exact k x r p
structure LAt (c:Cx)(ρ:iV)(s:bH)(r:aB)(l:ao AV)(p:eH)(items:rU bz)(n:aB):Prop where
 h:ρ.l[r]?=ah (p,aq)
 b:IsL s.c p items n
 d:iM c.z s.c ρ l items.u
 g:l.a<=gL
theorem lj (p:kL r σ P)(S:c.S ρ e σ s)(f:c.V s.c ρ (.e r) v)(G:bz->Prop)(k:∀l a b n,LAt c ρ s r l a b n->P l->G (.t a)):G v:=by
 refine bf (lk p) λl m p=>?_;refine Bx (Cx.S.kH S m f) λa b n d i j g h=>?_;subst d;exact k l a b n ⟨i,j,g,h⟩ p
theorem LAt.f (L:LAt c ρ s r l p a n):l.a=a.k:=L.d.ny
theorem KY (b:iM base h ρ l vs):∀k,iM base h ρ (cZ k l).flatten (cZ k vs).flatten:=by
 intro c
 induction c with
 |zero=>
  exact (af:_=[])
 |succ k a=>
  exact b.pK (a)
theorem Kq (a:AV):∀k,(cZ k [a]).flatten=cZ k a:=by
 intro c
 induction c with
 |zero=>
  exact af
 |succ k b=>
  exact aW (a::·) (b)
theorem Jc (h:Zy a b σ Q)(S:c.S ρ e σ s)(B:c.V s.c ρ a I)(k:c.V s.c ρ b i)(H:n4 c e s ρ Q QC) :
  bc c.M A (ju .Add I i) QC EC s:=by
 apply gl;intro X;cases a with
 |d a=>
  obtain ⟨t,rfl⟩:=B;exact i8 h k (λi=>bc c.M A (ju .Add (.O a t) i) QC EC s) λy u h=>PyProof.Rows.add_int (H.zc S gz h (bh _))
 |c x=>
  obtain ⟨t,rfl,W⟩:=B;refine sG h k (λi=>bc c.M A (ju .Add _ i) QC EC s) λy u j h=>PySem.P.add_str ?_;cases x with
  |nil=>exact H.mz S (uX j) h.2
  |cons V x=>
   cases y with
   |nil=>exact H.mz S (uX W) (dw (bD (V::x)) h.2)
   |cons Y y=>
    rw [mM];have o:=h.1;rw [← ai] at o;exact ⟨ab o fx,H.Tz S o h.2⟩
 |e r=>
  refine od h k λZ k h=>lj h S B (λI=>bc c.M A (ju .Add I i) QC EC s) λl p d n L h=>lj h S k (λi=>bc c.M A (ju .Add (.t p) i) QC EC s) λM p' C n' N h=>?_;refine P.add_list L.b N.b (H.N4 S (by refine aA gK ?_;exact L.d.pK N.d) (by refine aA ai ?_;exact h.1) h.2) ?_;exact L.f▸N.f▸ab h.1 fx
 |f l=>
  apply gl;intro X;refine l8 (Be h) λM g o q=>?_;subst g;refine oh (id B) λt d g m O _=>?_;subst g;obtain ⟨n,v⟩:=m;refine oh (id k) λb f g m z _=>?_;subst g;obtain ⟨J,j⟩:=m;have G:=O.ny;have D:=z.ny;cases l with
  |nil=>exact JZ (bQ _ v af) (bQ _ j af) A8 Ig zD xC (wG _ _) (tuple_addW0 t b d f n J aq aq #[] #[] (iE.i G.h)) (dX v j (H.mz S k q))
  |cons x l=>
   have T:¬ d.isEmpty:=λw=>xF _ (G.b (iE.g w));cases M with
   |nil=>exact JZ (bQ _ v af) (bQ _ j af) A8 Ig zD xC (wG _ _) (tuple_addW1 t b d f n J aq aq #[] #[] T (iE.i D.h)) (dX v j (H.mz S B (dw (bD (x::l)) q)))
   |cons y M=>
    refine JZ (bQ _ v af) (bQ _ j af) A8 Ig zD xC (wG _ _) (tuple_addW2 t b d f n J aq aq #[] #[] T (λw=>xF _ (D.b (iE.g w))) (G▸D▸ab o fx)) (dX v j ?_);exact H.N0 S (by refine aA gK ?_;exact O.pK z) (aA ai o) q
 |_=>exact h.e
theorem IF (h:YO a b σ Q)(S:c.S ρ e σ s)(w:c.V s.c ρ a k)(v:c.V s.c ρ b j)(H:n4 c e s ρ Q QC) :
  bc c.M A (ju .Mult k j) QC EC s:=by
 apply gl;intro C;cases a with
 |d a=>
  obtain ⟨t,rfl⟩:=w;exact i8 h v (λj=>bc c.M A (ju .Mult (.O a t) j) QC EC s) λy u h=>PyProof.Rows.mul_int (H.zc S gz h.2.2 (bh _)) (Sd h.1 h.2.1)
 |e r=>
  refine i8 h v (λj=>bc c.M A (ju .Mult k j) QC EC s) λm u h=>lj h S w (λk=>bc c.M A (ju .Mult k (.O m u)) QC EC s) λl p d n L h=>?_;apply gl;intro C;obtain ⟨i,rfl,B,o,q⟩:=h;have g:1=d.k:=L.f;have x:gL=1000000:=af;have f:s.c.f p=ah ({cls:=.v "list",dict:=aq,data:=.seq d n,slots:=#[]}:R1):=L.b
  refine wpAny_binaryOp_repeat_ref af ⟨_,f,af⟩ (λz=>EO z m u) noFill_list_mul F.fills_int_mul F.slot_int_rmul repeat_list F.slot_int_index.j
   (pk F.slot_int_rmul (EO s m u) F.entry_int_rmul (F.args_int_rmul_2 _ _) (lm_int_rmul_list_any m u p d n aq #[])
    (fK f af ⟨_,f,af⟩ (pk F.slot_list_mul ⟨_,f,af⟩ F.entry_list_mul (F.args_list_mul_2 _ _)
     (lm_list_mul_any p d n aq #[] m u (by simp [Builtin.List.listFitsIndex];exact ⟨ee (by decide) B,n7 o (by decide)⟩) (by refine dw g ?_;exact iZ.i (ab (aV (sD _)) (ab (i5.i o) (by decide)))) (by simp [gZ,ph,← g];exact ee o (by decide)))
     ⟨f,?_⟩)))
  rw [listMul_foldl_if];refine H.N4 S (Kq (.d i) _▸KY L.d m.p) ?_ q;refine aA gf ?_;exact i5.i o
 |_=>exact h.e
theorem I5 (h:Lj j a b σ Q)(S:c.S ρ e σ s)(i:c.V s.c ρ a f)(g:c.V s.c ρ b d)(H:n4 c e s ρ Q QC) :
  bc c.M A (ju (xS j) f d) QC EC s:=by
 cases j with
 |a=>exact Jc h S i g H
 |d=>exact IF h S i g H
 |c=>exact oc h i g (λf d=>bc c.M A (ju .Sub f d) QC EC s) λx t y u h=>PyProof.Rows.sub_int (H.zc S gz h (bh _))
 |e=>exact oc h i g (λf d=>bc c.M A (ju .FloorDiv f d) QC EC s) λx t y u h=>PyProof.Rows.floordiv_int h.1 (H.zc S gz h.2.2 (bh _)) (.C (C6 h.2.1))
 |b=>exact oc h i g (λf d=>bc c.M A (ju .Mod f d) QC EC s) λx t y u h=>PyProof.Rows.mod_int' h.1 (H.zc S gz h.2.2 (bh _))
 |f=>
  refine oc h i g (λf d=>bc c.M A (ju .BitAnd f d) QC EC s) λx t y u h=>?_;obtain ⟨rfl,q⟩:=h;refine PyProof.Rows.and_int (H.zc S ?_ q (bh _));rw [Ll];exact gz
theorem IE (S:c.S ρ e σ s)(b:c.V s.c ρ (.d i) a)(q:Q (.d (-i)) σ)(H:n4 c e s ρ Q QC):bc c.M A (unaryOp .USub a) QC EC s:=by
 obtain ⟨t,rfl⟩:=b;exact PyProof.Rows.neg_int (H.zc S gz q (bh _))
end
open PySem PySem.Calls PyProof.Rows PySem.SeqAt
theorem Kv (c):∀l:Tx,bg (c∈l)=d0 c l:=by
 intro b
 induction b with
 |nil=>
  exact bR dm
 |cons d l a=>
  show _=(aM c d||d0 c l);refine dw a ?_;rw [gH,decide_eq_true_iff,cz,Bool.or_eq_true,decide_eq_true_iff];exact or_congr ⟨λh=>dw h (gU c),aD⟩ Iff.rfl
theorem tN (c)(l):Txt.contains (dq l) (dq [c])=d0 c l:=by
 have:=StrLaws.found_one (dq l) c;rw [← Kv,gH];rw [gH] at this;exact this
noncomputable def pH:bz->bC
 |.s=>ax
 |_=>aw
section
variable {c:Cx}{e:Ev}{s:bH}{ρ:iV}{σ:a8}{EC:bz->bH->Prop}{A:k8}
theorem Pq (h:jq (a::l)):∃x,a=.c x/\jq l:=by
 apply gl;intro b;cases a<;>first|exact (bQ _ af h)|cases h
theorem Il (a b):bT a b=bT b a:=by
 rw [gH,gj,gj];exact ⟨Ox,Ox⟩
theorem E6:∀{vs:ao bz},jq l->iM base h ρ l vs->(∀y∈vs,EqAt A s y (.str (dq x) u) (y.isStr (dq x)))/\(vs.any λv=>v.isStr (dq x))=cF x l:=by
 induction l with
 |nil=>
  intro vs _ b;obtain rfl:=(b:_=[]);exact ⟨λr h=>bZ h dm,af⟩
 |cons a l f=>
  intro vs d b;apply gl;intro g;refine bf (Pq d) λy e d=>?_;subst e;obtain ⟨v,vs,rfl,⟨t,rfl,_⟩,b⟩:=b;have w:=f d b;refine ⟨λz c=>?_,?_⟩
  ·rcases cz.g c with rfl|c
   ·exact EqAt.str_str _ _ _ _
   ·exact w.1 z c
  ·show ((dq y==dq x)||vs.any _)=(bT x y||cF x l);rw [xf,w.2,Il]
theorem IG (h:iz (a::l)=ah r):(a=.h/\r/\∃q,iz l=ah q)\/(iz l=ah r/\∃i,a=.d i):=by
 cases a with
 |h=>
  have h:(iz l).d (λz=>ax)=ah r:=h;cases q:iz l with
  |none=>exact ba (by refine aA q ?_;rfl) h
  |some b=>rw [q] at h;exact .C ⟨af,(aK h).h,b,af⟩
 |d i=>exact .y ⟨h,i,af⟩
 |_=>exact ba af h
theorem C8:∀{vs:ao bz} {r:bC},iz l=ah r->iM base h ρ l vs->(∀y∈vs,EqAt A s y .s (pH y))/\(vs.any pH)=r:=by
 induction l with
 |nil=>
  intro vs r h b;obtain rfl:=(b:_=[]);exact ⟨λz h=>bZ h dm,aK h⟩
 |cons a l g=>
  intro vs r h b;obtain ⟨v,vs,rfl,f,b⟩:=b;have d:∀{q},EqAt A s v .s (pH v)->iz l=ah q->(∀y∈v::vs,EqAt A s y .s (pH y))/\((v::vs).any pH)=(pH v||q):=fun {q} j c=>by
   have w:=g c b;refine ⟨λy e=>?_,dw w.2 af⟩;rcases cz.g e with rfl|e
   ·exact j
   ·exact w.1 y e
  rcases IG h with ⟨rfl,rfl,q,c⟩|⟨c,i,rfl⟩
  ·obtain rfl:=(f:v=.s);exact d (Oa _) c
  ·obtain ⟨t,rfl⟩:=f;exact d (EqAt.int_none _ _) c
end
section
variable {c:Cx}{e:Ev}{s:bH}{ρ:iV}{σ:a8}{QC EC:bz->bH->Prop}{A:k8}
def Oj (s:bH)(r:bC)(QC:bz->bH->Prop):Prop:=∀a,s.D<=a->QC (.bool r) {s with toks:=a}
theorem Oj.f (H:Oj s (r ^^ aw) QC):Oj s r QC:=by rw [Bool.xor_false] at H;exact H
theorem Oj.t (H:Oj s (r ^^ ax) QC):Oj s (!r) QC:=by rw [Bool.xor_true] at H;exact H
theorem Oj.zq (H:Oj s r QC):QC (.bool r) s:=H s.D (au _)
theorem G4 (e:s.c.IsList l a)(g:∀y∈a.u,EqAt A.in1 s y v (f y))(h:a.u.any f=r)(H:Oj s (r ^^ b) QC) :
  bc c.M A (gx (if b then .NotIn else .In) v (.t l)) QC EC s:=by
 rw [wO] at h;subst h;cases b
 ·exact in_listAt f e (λy d=>g y (lY.i d)) (H.f.zq)
 ·exact notIn_listAt f e (λy d=>g y (lY.i d)) (H.t.zq)
theorem Dl (g)(j:(c.z.f pg).kI)(h:inW a b σ P)(S:c.S ρ e σ s)(G:c.V s.c ρ a z)(F:c.V s.c ρ b m)(H:∀r,P r->Oj s (r ^^ g) QC) :
  bc c.M A (gx (if g then .NotIn else .In) z m) QC EC s:=by
 have W:∀{x:Tx} {t:aB} {l:eH} {f:rU bz} {I:ao AV},s.c.IsList l f->iM c.z s.c ρ I f.u->jq I->P (cF x I)->bc c.M A (gx (if g then .NotIn else .In) (.str (dq x) t) (.t l)) QC EC s:=fun {x t l f I} T D B q=>
  G4 T (E6 B D).1 (E6 (A:=A.in1) (s:=s) (u:=t) B D).2 (H _ q)
 apply gl;intro g9;cases b with
 |f l=>
  refine sG h G (λz=>bc c.M A (gx (if g then .NotIn else .In) z m) QC EC s) λx t _ h=>?_
  have h:=qJ h;refine oh F λp f i B D _=>?_;subst i;have w:=E6 (A:=A.in1) (s:=s) (x:=x) (u:=t) h.1 D;have H:=H _ h.2;rw [← w.2,wO] at H;cases g
  ·exact in_tupleAt _ B.JP (λy N=>w.1 y (lY.i N)) H.f.zq
  ·exact notIn_tupleAt _ B.JP (λy N=>w.1 y (lY.i N)) H.t.zq
 |j l=>
  refine sG h G (λz=>bc c.M A (gx (if g then .NotIn else .In) z m) QC EC s) λx t _ h=>?_
  have h:=qJ h;refine oh F λp f i C D _=>?_;subst i;obtain ⟨n,B⟩:=C;exact W ⟨_,S.E _ _ B,af,n,af⟩ D h.1 h.2
 |c l=>
  refine sG h G (λz=>bc c.M A (gx (if g then .NotIn else .In) z m) QC EC s) λx t _ h=>?_
  refine bf (Ku h) λk i q=>?_;subst i;refine bf F λu i _=>?_;subst i;have H:=H _ q;cases g
  ·exact SB.contains (by rw [tN];exact H.f.zq)
  ·exact SB.notContains (by rw [tN];exact H.t.zq)
 |e o=>
  cases a with
  |c x=>
   refine bf G λt i _=>?_;subst i;have h:Fu x o σ P:=h;unfold Fu at h;rcases h with ⟨l,V,T,q⟩|⟨es,V,q⟩
   ·refine lj (P:=λl=>jq l/\P (cF x l)) (by unfold kL;exact l4 l V T q) S F (λm=>bc c.M A (gx (if g then .NotIn else .In) _ m) QC EC s) λl p f n L h=>W L.b.isList L.d h.1 h.2
   ·refine bf F λi C Y=>?_;obtain ⟨p,d⟩:=i;subst C;obtain ⟨e1,M,O,hf,_⟩:=S.K.G o _ _ Y V;have Z:=O.mapOf;have hd:(p==pg)=aw:=by
     cases hq:p==pg with
     |false=>rfl
     |true=>
      have:=S.K.J p (ky Y (og _));have this:=vX hq▸this;have j:=this▸j;injection j
    have hx:(zw M (dq x)).kI=(es.j x).kI:=by
     have:=hf.abI x;cases X:es.j x with
     |none=>have this:=X▸this;exact aA this af
     |some a=>rw [X] at this;refine bf this λv e2 _=>?_;exact aA e2 af
    have J:=H _ q;rw [← hx] at J;cases g
    ·exact wpAny_in_of (EP _ _ _ t) hd Z (J.f _ (bh _))
    ·exact wpAny_notIn_of (EP _ _ _ t) hd Z (J.t _ (bh _))
  |h=>
   obtain rfl:=(G:z=.s);refine lj h S F (λm=>bc c.M A (gx (if g then .NotIn else .In) .s m) QC EC s) λl p f n L h=>?_
   refine bf (hR h) λr hr q=>?_;have w:=C8 (A:=A.in1) (s:=s) hr L.d;exact G4 L.b.isList w.1 w.2 (H _ q)
  |_=>exact h.e
 |_=>exact h.e
theorem Fq (h:kT a P)(b:c.V s.c ρ a d)(H:∀r,P r->Oj s r QC):bc c.M A (gx .Is d .s) QC EC s:=by
 unfold kT at h;cases a with
 |h=>obtain rfl:=(b:d=.s);exact is_none_none (H _ h).zq
 |d _=>obtain ⟨t,rfl⟩:=b;exact is_int_none (H _ h).zq
 |c _=>obtain ⟨t,rfl,_⟩:=b;exact is_str_none (H _ h).zq
 |f _=>obtain ⟨t,_,rfl,_⟩:=b;exact is_ref_none (H _ h).zq
 |_=>exact h.e
theorem C7 {P:bC->Prop}(h:kT a λr=>P (!r))(b:c.V s.c ρ a d)(H:∀r,P r->Oj s r QC):bc c.M A (gx .IsNot d .s) QC EC s:=by
 unfold kT at h;cases a with
 |h=>obtain rfl:=(b:d=.s);exact isnot_none_none (H _ h).zq
 |d _=>obtain ⟨t,rfl⟩:=b;exact isnot_int_none (H _ h).zq
 |c _=>obtain ⟨t,rfl,_⟩:=b;exact isnot_str_none (H _ h).zq
 |f _=>obtain ⟨t,_,rfl,_⟩:=b;exact isnot_ref_none (H _ h).zq
 |_=>exact h.e
theorem TN (h:Yv a b P):∃x y,a=.l (.v x)/\b=.v y/\P (x==y):=by
 cases a with
 |l v=>
  cases v with
  |type x=>
   cases b with
   |type y=>exact jf x y af af h
   |_=>exact h.e
  |_=>exact h.e
 |_=>exact h.e
theorem mE (w:A.units+100<uO)(j:(c.z.f pg).kI)(h:FH p a b σ P)(S:c.S ρ e σ s)(i:c.V s.c ρ a f)(g:c.V s.c ρ b d)(H:∀r,P r->Oj s r QC) :
  bc c.M A (gx (kU p) f d) QC EC s:=by
 have l:∀{R:bC->Prop},Ze a b R->∃r,qh A s f d r/\R r:=fun {R} h=>by
  refine bf (hR h) λr B h=>?_;obtain ⟨z,h⟩:=qJ h;exact bQ r (Vk _ _ A f d r B i g (aQ (ar (aa z) _) w)) h
 apply gl;intro C;cases p with
 |a=>obtain ⟨r,k,h⟩:=l h;exact k.2.1 _ _ _ _ (H r h).zq
 |d=>obtain ⟨r,k,h⟩:=l h;exact k.2.2 _ _ _ _ (H _ h).zq
 |c=>exact oc h i g (λf d=>bc c.M A (gx .Lt f d) QC EC s) λx t y u h=>PyProof.Rows.lt_int (H _ h).zq
 |j=>exact oc h i g (λf d=>bc c.M A (gx .LtE f d) QC EC s) λx t y u h=>PyProof.Rows.le_int (H _ h).zq
 |b=>exact oc h i g (λf d=>bc c.M A (gx .Gt f d) QC EC s) λx t y u h=>PyProof.Rows.gt_int (H _ h).zq
 |h=>exact oc h i g (λf d=>bc c.M A (gx .GtE f d) QC EC s) λx t y u h=>PyProof.Rows.ge_int (H _ h).zq
 |e=>exact Dl aw j h S i g λr q=>aA (Bool.xor_false r) (H r q)
 |f=>exact Dl (P:=λr=>P (!r)) ax j h S i g λr q=>aA (Bool.xor_true r) (H _ q)
 |g=>
  cases b with
  |h=>have m:=(g:d=.s);subst m;exact Fq h i H
  |l v=>
   obtain rfl:=(g:d=v);refine mO (TN h) λx y o n h=>?_;subst o;subst n;obtain rfl:=(i:f=.v x);apply wpAny_is_plain af;have q:(Ii x==Ii y)=(x==y):=by
    rw [gH];simp
   exact aA q (H _ h).zq
  |_=>exact h.e
 |i=>
  cases b with
  |h=>have m:=(g:d=.s);subst m;exact C7 h i H
  |g y=>
   obtain rfl:=(g:d=.bool y);cases a with
   |g x=>
    obtain rfl:=(i:f=.bool x);apply wpAny_isNot_plain af;have q:(tm x==tm y)=(x==y):=by
     rw [gH];simp
    exact aA q (H _ h).zq
   |_=>exact h.e
  |_=>exact h.e
end
open PySem PySem.Calls PyProof.Rows PySem.SeqAt MeetsSeq
theorem x7 (h:lZ i n=ah k):seqIndex? i n=ah k/\k<n/\(0<=i->k=i.p)/\(i<0->k=(i+n).p/\-(n:aU)<=i):=by
 unfold lZ at h;unfold seqIndex?;by_cases b:0<=i
 ·rw [c7 b] at h;have d:=dQ.i b;by_cases a:i<n
  ·have h:=c7 a▸h;have c:=aK h;refine ⟨?_,dw c ((nu b).i a),λz=>c.h,λq=>bZ q d⟩;show (if (bg (0<=if i<0 then i+n else i)&&bg ((if i<0 then i+n else i)<n))=ax then ah (if i<0 then i+n else i).p else aq)=_
   refine aA (dA d) (aA (bF b) (aA (bF a) ?_));exact h
  ·rw [dA a] at h;injection h
 ·rw [dA b] at h;have d:=fP.g b;by_cases a:0<=i+n
  ·rw [c7 a] at h;have c:=aK h;have e:=ks (Int.add_lt_add_right d n) (wM (jR _));refine ⟨?_,dw c ((nu a).i e),λq=>bZ q b,λz=>⟨c.h,Int.le_of_sub_nonneg (by rw [Int.sub_neg];exact a)⟩⟩;show (if (bg (0<=if i<0 then i+n else i)&&bg ((if i<0 then i+n else i)<n))=ax then ah (if i<0 then i+n else i).p else aq)=_
   refine aA (c7 d) (aA (bF a) (aA (bF e) ?_));exact h
  ·rw [dA a] at h;injection h
theorem abK:gL=1000000:=af
theorem G7 (l:ao c)(a b):(l.m (jd a l.a)).K (jd b l.a-jd a l.a)=xh l a b:=by
 unfold xh;refine dw List.drop_take ?_;rcases EX a l.a with h|h
 ·exact aA (zG h) (dw List.take_eq_take_min af)
 ·refine aA (qj h) ?_;rw [qz,qz]
  ·exact ab (mh ..) h
  ·exact mh ..
theorem La (l:ao c)(a b):(xh l a b).a<=l.a:=ab (aA fS (fO _ _)) (mh ..)
theorem xY {a b n:aB}(h:a<=b):jd a n<=jd b n:=Nat.le_min.i ⟨ab (Nat.min_le_left ..) h,gh ..⟩
theorem C0 (a b c:aB)(e:a<=b):gy (ah (a:aU)) (ah (b:aU)) 1 c=(ew (jd b c-jd a c)).d (λk=>jd a c+k):=by
 refine dw (StrLaws.strSliceIndices_plain (xY e) (gh ..)) ?_;unfold gy;have d:∀n:aB,¬ ((n:aU)<0):=λn=>dQ.i (bq n);have f:(1:aU)>0:=by decide
 simp only [(d a),(d b),(d (jd a c)),(d (jd b c)),f,Ol,vO];have q:∀a:aB,jd ((jd a c:aB):aU) (c:aU)=jd (a:aU) (c:aU):=λa=>by
  rcases EX a c with h|h
  ·exact aA (zG h) af
  ·refine aA (qj h) ?_;rw [gi (cy.i h),Int.min_self]
 rw [q,q]
theorem Fb (x)(a b:aB)(c:a<=b):(gy (ah (a:aU)) (ah (b:aU)) 1 (dq x).a).jB ((dq x).cps[·]?)=xh x a b:=by
 refine aA (C0 a b _ c) ?_;rw [← StrLaws.strSliceIndices_plain (xY c) (gh ..),StrLaws.sliced_plain (dq x) (xY c) (gh ..),dD];exact G7 x a b
section
variable {c:Cx}{e:Ev}{s:bH}{ρ:iV}{σ:a8}{Q:QV}{QC EC:bz->bH->Prop}{A:k8}
theorem Bp (h:lZ i n=ah k)(b:n<=gL):-(gL:aU)<=i/\i<gL:=by
 refine Bz (x7 h) λz e d c=>?_;have b:=cy.i b;by_cases a:0<=i
 ·exact ⟨ee (pw (bq gL)) a,ks ((nu a).g (dw (d a) e)) b⟩
 ·exact ⟨ee (Int.neg_le_neg b) (c (fP.g a)).2,ks (fP.g a) (bq gL)⟩
theorem Sh (h:-(gL:aU)<=i):-(2 ^ 63:aU)<=i:=ee (by decide) h
theorem Si (h:i<(gL:aU)):i<(2 ^ 63:aU):=ks h (by decide)
theorem Dd (o:lZ i l.a=ah k)(y:l[k]?=ah x)(m:IsL s.c p b n)(j:iM c.z s.c ρ l b.u)(w:l.a<=gL)(q:Q x σ)(S:c.S ρ e σ s)(H:n4 c e s ρ Q QC) :
  bc c.M A (m5 (.t p) (.O i t)) QC EC s:=by
 refine bf (j.Px y) λv f h=>?_;have f:=dI▸f;have a:=j.ny;have d:=x7 o;have u:=Bp o w;by_cases g:0<=i
 ·exact wpAny_getItem_list m.isList g (EY u.2 (by decide)) (dw (d.2.2.1 g) f) (H.mz S h q)
 ·have r:=fP.g g;have:=d.2.2.2 r;exact wpAny_getItem_list_neg m.isList r (dw a this.2) (ee (by decide) u.1) (a▸this.1▸f) (H.mz S h q)
theorem Al (h:qI a b σ λr=>Q r σ)(S:c.S ρ e σ s)(B:c.V s.c ρ a w)(z:c.V s.c ρ b m)(H:n4 c e s ρ Q QC) :
  bc c.M A (m5 w m) QC EC s:=by
 apply gl;intro T;cases a with
 |e r=>
  cases b with
  |d i=>
   obtain ⟨t,rfl⟩:=z;refine lj h S B (λw=>bc c.M A (m5 w (.O i t)) QC EC s) λl p g n L h=>?_;apply gl;intro T;refine bf (hR h) λk j h=>?_;obtain ⟨x,o,q⟩:=hR h;exact Dd j o L.b L.d L.g q S H
  |c x=>
   refine bf (FG h) λX P h=>?_;refine bf (hR h) λv D q=>?_;refine bf z λt f y=>?_;subst f;obtain ⟨⟨p,d⟩,rfl,N⟩:=B;obtain ⟨Y,M,I,O,_⟩:=S.K.G _ _ _ N P;have:=O.abI x;rw [D] at this;refine bf this λW V F=>?_;exact wpAny_getItem_of (EP _ _ _ t) I.mapOf V (H.zc S F q (bh _))
  |_=>exact h.e
 |f l=>
  refine i8 h z (λm=>bc c.M A (m5 w m) QC EC s) λi t h=>?_;obtain ⟨k,j,h⟩:=hR h;obtain ⟨x,o,q⟩:=hR h;refine oh B λp g f G C y=>?_;subst f;refine bf (C.Px o) λv D F=>?_;rw [dI] at D;have b:=Bp j y;exact PyProof.Rows.getItem_tuple G.JP (Sh b.1) (Si b.2) (dw C.ny (x7 j).1) D (H.mz S F q)
 |j l=>
  refine i8 h z (λm=>bc c.M A (m5 w m) QC EC s) λi t h=>?_;obtain ⟨k,j,h⟩:=hR h;obtain ⟨x,o,q⟩:=hR h;refine oh B λp g f J C y=>?_;subst f;obtain ⟨n,G⟩:=J;exact Dd j o (S.E _ _ G) C y q S H
 |c l=>
  refine i8 h z (λm=>bc c.M A (m5 w m) QC EC s) λi u h=>?_;refine bf (hR h) λk j h=>?_;refine bf (hR h) λx o q=>?_;refine bf B λt f y=>?_;subst f;have b:=Bp j y.1;refine PySem.P.getItem_str ?_ (by rw [dD];refine aA (x7 j).1 ?_;show l.N[k]?=ah x;exact aA List.getElem?_toArray o) (H.Tz S (aF 1 999999) q);refine aA (bR (dQ.i (Sh b.1))) (aA (bR (fP.i (Si b.2))) ?_);rfl
 |_=>exact h.e
theorem YR (h:OO (ah x)=ah a):x=.d a:=by
 cases x with
 |d i=>
  have h:(if 0<=i then ah i.p else aq)=ah a:=h
  by_cases b:0<=i
  ·rw [c7 b] at h;obtain rfl:=aK h;exact aA (iI b) af
  ·have h:=dA b▸h;injection h
 |_=>exact ba af h
theorem acE (h:OV n (ah x)=ah a):x=.d a:=by
 cases x<;>exact YR h
noncomputable abbrev Ae (a b:bz):R1:={cls:=.v "slice",data:=.T #[a,b,.s]}
noncomputable abbrev ku (s:bH)(a b:bz):bH:={s with heap:=s.c.push (Ae a b)}
noncomputable def yA (h:eI)(ρ:iV)(base:eI):aJ AV->bz->Prop
 |aq,v=>v=.s
 |some a,v=>RV base h ρ a v
theorem uW {r:aB}{j k:aJ AV}(P:σ[r]?=ah (.a l))(z:OO j=ah a)(y:OV l.a k=ah b)(q:Q (.e σ.a) (σ++[.a (xh l a b)]))(S:c.S ρ e σ s)(G:c.V s.c ρ (.e r) C)(u:yA s.c ρ c.z j f)(v:yA s.c ρ c.z k g)(H:n4 c e s ρ Q QC) :
  bc c.M A (m5 C (.t s.c.q.k)) QC EC (ku s f g):=by
 have W:n4 c e (ku s f g) ρ Q QC:=H.qg (fK af af af (au _)) (qo.K _);have B:=S.p (Ae f g);refine Bx (Cx.S.kH (s:=ku s f g) B P ((qo.K (F:=c.F) (own:=wR) (Ae f g)).s G)) λp d n m Z N t w=>?_;subst m;have h:=t.ny;have O:=fx;have J:∃o,IsPart f o/\(o.e 0 (clipAt d.k):aB)=jd a d.k:=by
  cases j with
  |none=>
   obtain rfl:=(u:f=.s);obtain rfl:=aK (z:ah 0=ah a);exact bQ aq .s ((Nat.zero_min _).h)
  |some x=>
   have i:=YR z;subst i;obtain ⟨D,rfl⟩:=u;exact bQ (ah (a:aU)) (.O _ _) (clipAt_nat ..)
 have I:∃o,IsPart g o/\(o.e d.k (clipAt d.k):aB)=jd b d.k:=by
  cases k with
  |none=>
   obtain rfl:=(v:g=.s);obtain rfl:=aK (y:ah l.a=ah b);exact bQ aq .s (dw h (Nat.min_self _).h)
  |some x=>
   have i:=acE y;subst i;obtain ⟨D,rfl⟩:=v;exact bQ (ah (b:aU)) (.O _ _) (clipAt_nat ..)
 refine bf J λY M V=>?_;refine bf I λX L T=>?_;refine wpAny_getItem_list_slice N.isList (lB s.c f g .s) M L .s (by simp) ?_ (dw h (ab w O));rw [slicePick_plain];refine aA V (aA T ?_);refine W.N4 B ?_ ?_ q
 ·refine aA List.toList_toArray ?_;rw [← eG,G7];exact (t.Pw b).Vz a
 ·exact ab (La ..) w
theorem OL (h:jd b n-jd a n=n)(d:0<n):a=0/\n<=b:=by
 have e:=ab (ab (aV h.h) (fO ..)) (Nat.min_le_left b n);rw [qj e] at h;rcases Nat.eq_zero_or_pos a with c|c
 ·exact ⟨c,e⟩
 ·exact bZ h (b5 (Nat.sub_lt d (Nat.lt_min.i ⟨c,d⟩)))
set_option tactic.hygienic true in
theorem wQ {l:Tx}(v:0<=i)(g:i<=j)(q:Q (.c (xh l i.p j.p)) σ)(S:c.S ρ e σ s)(F:c.V s.c ρ (.c l) y)(C:c.V s.c ρ (.d i) k)(D:c.V s.c ρ (.d j) n)(H:n4 c e s ρ Q QC) :
  bc c.M A (m5 y (.t s.c.q.k)) QC EC (ku s k n):=by
 have x:n4 c e (ku s k n) ρ Q QC:=H.qg (fK af af af (au _)) (qo.K _);have w:=S.p (Ae k n);refine bf F λt o p=>?_;subst o;obtain ⟨B,rfl⟩:=C;obtain ⟨z,rfl⟩:=D;refine wpAny_getItem_str_slice (l:=ah (i,B)) (u:=ah (j,z)) (st:=aq) (l4 _ (bY _ af) af af) af ?_;obtain ⟨a,rfl⟩:=dn v;obtain ⟨b,rfl⟩:=dn (ee v g);have h:=cy.g g;have d:(xh l a b).a<=gL:=ab (La ..) p.1;unfold sliceMade;rw [slicePicked];split
 ·rename_i G
  have I:xh l a b=l:=by
   have r:(gy (ah (a:aU)) (ah (b:aU)) 1 (dq l).a).a=l.a:=vX ((ae.g G).2);rw [C0 a b _ h,ay,iq,dD] at r;unfold xh;rcases Nat.eq_zero_or_pos l.a with f|f
   ·obtain rfl:=gE.g f;exact aA o6 (aA o7 af)
   ·have m:=OL r f;exact aA m.1 (aA jA (aA (List.take_of_length_le m.2) af))
  exact x.mz w (uX p) (dw I q)
 ·show (Made.str ⟨((gy (ah (a:aU)) (ah (b:aU)) 1 (dq l).a).jB ((dq l).cps[·]?)).N⟩).post QC _;exact aA (Fb l a b h) ⟨ab d fx,x.Tz w d q⟩
theorem Ye (b n:aB)(a:b<=n):Builtin.Slice.sliceAdjust aq (ah (b:aU)) 1 (n:aU)=(0,(b:aU)):=by
 unfold Builtin.Slice.sliceAdjust;have c:¬ ((1:aU)<0):=by decide
 simp only [c,(dQ.i (bq b)),Ol];congr 1;exact eW (cy.i a)
theorem CZ {a:AV}{B f:aJ AV}(h:Fc a B f σ Q)(S:c.S ρ e σ s)(t:c.V s.c ρ a G)(n:yA s.c ρ c.z B D)(o:yA s.c ρ c.z f w)(H:n4 c e s ρ Q QC) :
  bc c.M A (m5 G (.t s.c.q.k)) QC EC (ku s D w):=by
 apply gl;intro T;cases a with
 |c l=>
  refine bf (hR h) λx b h=>?_;subst b;refine bf (hR h) λy b h=>?_;subst b;refine bf (ye h) λi b h=>?_;subst b;refine U7 (ye h) λj b N v q=>?_;subst b;exact wQ N v q S t n o H
 |f l=>
  cases f with
  |some y=>exact h.e
  |none=>
   refine bf (hR h) λx b h=>?_;subst b;refine U7 (ye h) λi b g f q=>?_;subst b;obtain ⟨m,rfl⟩:=n;obtain rfl:=(o:w=.s);have P:n4 c e (ku s (.O i m) .s) ρ Q QC:=H.qg (fK af af af (au _)) (qo.K _);have O:=S.p (Ae (.O i m) .s);refine oh ((qo.K (F:=c.F) (own:=wR) (Ae (.O i m) .s)).s t) λp u b I z C=>?_;subst b;have d:=z.ny;obtain ⟨k,rfl⟩:=dn (ee (by decide) g);have J:=fx;refine PyProof.Rows.getItem_tuple_from I.JP (lB s.c _ _ .s) (cy.g g) (dw d (cy.g f)) ?_ (dw d (ab C J));exact P.N0 O (z.Vz k) (ab (aA fS (fO _ _)) C) q
 |e r=>
  refine bf (lk h) λl g h=>?_;refine bf (hR h) λx M h=>?_;refine bf (hR h) λy L q=>?_;exact uW g M L q S t n o H
 |_=>exact h.e
end
open PySem PySem.Calls PyProof.Rows PySem.SeqAt MeetsSeq
theorem zR {e:Type}(p:aB->bC)(xs:ao e)(a j)(c:∀k,j<=k->k<j+xs.a->p k=bg (a<=k)):((xs.zipIdx j).jB λx=>if p x.2 then aq else ah x.1)=xs.K (a-j):=by
 induction xs generalizing j with
 |nil=>exact o6.h
 |cons x xs b=>
  have d:=c j (au _) (cX (cp _));have b:=b (j+1) λk g f=>c k (aT g) (dw (bo j 1 xs.a) f);refine aA List.zipIdx_cons (aA mL ?_);by_cases h:a<=j
  ·simp only [d,h,decide_true,vO];refine aA b (aA (hW h) (aA (hW (b7 h)) ?_));rfl
  ·simp only [d,h,decide_false,Bool.false_eq_true,Ol];refine aA b (dw (Nat.succ_pred_eq_of_pos (Nat.sub_pos_of_lt (xG h))) ?_);rfl
theorem K9 {b:Type}(p:aB->bC)(xs:ao b)(a)(c:∀k,k<xs.a->p k=bg (a<=k)):(xs.zipIdx.jB λx=>if p x.2 then aq else ah x.1)=xs.K a:=zR p xs a 0 λk z h=>c k (dw (dJ xs.a) h)
theorem Dr (a:rU bz)(k):(a.extract k a.k).u=a.u.m k:=by
 refine aA Array.toList_extract (aA List.extract_eq_take_drop ?_);exact List.take_of_length_le (aV fS)
theorem Dq (a:rU bz)(k):(a.extract 0 k).u=a.u.K k:=by
 refine aA Array.toList_extract (aA List.extract_eq_take_drop ?_);rfl
theorem G8 {a:Type}(l l':ao a)(k):(l.K k++l'++l.m k).a=l.a+l'.a:=by
 refine aA ai ?_;rw [ai,bo,← ai,ru]
section
variable {prog:jk}{w:lA}{A:k8}{E:bz->bH->Prop}{s:bH}
theorem OZ (h:lZ i n=ah k)(c:n<=gL):Builtin.List.listFitsIndex i:=by
 have a:=Bp h c;by_cases b:0<=i
 ·exact fitsIndex_of b (EY a.2 (by decide))
 ·exact fitsIndex_neg (fP.g b) (ee (by decide) a.1)
theorem zK (b:IsL s.c l a n)(m:lZ i a.k=ah k)(q:a.k<=gL)
  (h:Q () {s with heap:=s.c.update l (n6 (·.jX k v))}):bc (rM prog w) A (lX (.t l) (.O i u) v) Q E s:=by
 have d:s.S (.t l) "list":=bQ _ b af
 refine Bz (x7 m) λp c t y=>?_;have g:=Array.getElem?_eq_getElem c;unfold lX;refine b9 (aG (wpAny_sequenceKey d af ?_));refine aG (wpAny_callSpecial?_slot d qv
  (A6 qv d entry_list_setitem ?_ (args_list_setitem _ _ _)))
 show bc _ _ (gu (.O i u) >>= _) _ _ s;apply jI;intro o;refine aG (wpAny_listSubscript_int (OZ m q) ?_);by_cases e:0<=i
 ·obtain ⟨j,rfl⟩:=dn e;obtain rfl:k=j:=by have:=t e;simpa using this
  show bc _ _ ((seqItemAt l k >>= λr=>ij (r.d (k,·))) >>= _) _ _ s;refine aG (aG (wpAny_seqItemAt b af (br ?_)));refine aA g ?_;show bc _ _ (setSeqItemAt l k v >>= _) _ _ s;refine aG (wpAny_setSeqItemAt b af ?_)
  first
   |exact aG (br (br (dX .none af (br h))))
   |exact br (bQ .s af (br h))
 ·obtain ⟨j,rfl⟩:∃j:aB,i=iU j:=by
   cases i with
   |ofNat n=>exact bZ (bq n) e
   |negSucc j=>exact ⟨j,af⟩
  show bc _ _ ((jV (.t l) >>= λf=>ij ((seqIndex? (iU j) f.k).J λj=>f[j]?.d (j,·))) >>= _) _ _ s;refine aG (aG ?_);unfold jV;apply jI;intro o;apply sE;intro x;refine aG (uL b af (br (br ?_)));refine aA p ?_;simp only [vU,g,Option.map_some];show bc _ _ (setSeqItemAt l k v >>= _) _ _ s;refine aG (wpAny_setSeqItemAt b af ?_)
  first
   |exact aG (br (br (bQ .none af (br h))))
   |exact br (bQ .s af (br h))
theorem vZ {e f:aJ aU}(k:s.c.IsSliceOf g d c .s)(j:IsPart d e)(i:IsPart c f)(h:Q (rawPart e,rawPart f,.s) s) :
  bc (rM prog w) A (Builtin.List.listSliceParts (.t g)) Q E s:=by
 refine l8 (id k) λm a l b=>?_;rw [listSliceParts_eq];refine aG (nj a b (x:=.s) af (aG (EL .s ?_)));refine aA (dA (show ¬ ((rawPart aq==A7 0)) from bJ)) ?_;refine aG (nj a b (x:=d) af (aG (EL j ?_)));exact aG (nj a b (x:=c) af (aG (EL i (br h))))
theorem Ad (e:s.c.IsSliceOf c i g .s)(h:Q aq s):bc (rM prog w) A (gu (.t c)) Q E s:=by
 refine l8 (id e) λd a b f=>?_;unfold gu;refine aG (n5 ((bQ d a b):s.S (.t c) "slice") slice_no_index ?_)
 simp only [Option.isNone_none,vO];exact br h
theorem xK {n y a:aB}(p:IsL s.c l b n)(v:IsL s.c m c y)(o:l≠m)(j:s.c.IsSliceOf e (.O a t) (.O a u) .s)(C:a<=b.k)(g:b.k+c.k<=ph)
  (h:Q () {s with heap:=s.c.update l (n6 λxs=>xs.extract 0 a++c++xs.extract a xs.k)}):bc (rM prog w) A (lX (.t l) (.t e) (.t m)) Q E s:=by
 have r:s.S (.t l) "list":=bQ _ p af
 refine l8 (id j) λx k q z=>?_;unfold lX;refine b9 (aG (wpAny_sequenceKey r af ?_));refine aG (wpAny_callSpecial?_slot r qv
  (A6 qv r entry_list_setitem ?_ (args_list_setitem _ _ _)))
 show bc _ _ (gu (.t e) >>= _) _ _ s;apply jI;intro f;refine aG (Ad j ?_);show bc _ _ (typeOf (.t e) >>= _) _ _ s;apply sE;intro F;apply jI;intro f;refine aG (zt ((bQ x k q):s.S (.t e) "slice") ?_)
 rw [dA (by decide)];apply jI;intro f;refine aG (vZ j (.O _ _) (.O _ _) ?_);have i:Builtin.List.listSameRef (.t l) (.t m)=aw:=by simp [Builtin.List.listSameRef,o]
 rw [i];apply aG;unfold Builtin.List.listAllItems;apply jI;intro f;refine aG (zt ((bQ _ v af):s.S (.t m) "list") ?_)
 rw [c7 (by decide)];unfold jV;refine aG (uL v af (br ?_));refine aG (aG (uL p af (br ?_)));refine aG (uM (sliceIndices_raw (ah a) (ah a) aq b.k (by simp)) ?_);have B:CB (ah (a:aU)) (ah (a:aU)) aq b.k=((a:aU),(a:aU),1):=by
  unfold CB;have D:vV (0:aU) (jd (a:aU) (b.k:aU))=a:=by refine aA (eW (cy.i C)) ?_;rw [jS (bq a)]
  simp [(dQ.i (bq a)),D]
 refine aA B ?_;show bc _ _ (if ((1:aU)==1)=ax then _ else _) _ _ s
 refine aA (c7 (by decide)) ?_;refine aG (EK ?_);have d:gZ (b.k+c.k)=aw:=by
  unfold gZ;exact bR (iZ.i g)
 refine aA d ?_;refine aA (dA bJ) ?_;apply aG;show bc _ _ (updateSeq l _) _ _ s;refine wpAny_updateSeq p af ?_ (ab (ak _ _) g) ?_
 ·refine aG (wpAny_letGo ?_);refine aG (m:=ret .s) (br (br (bQ .s af (br ?_))))
  simpa using h
 ·rw [Int.max_self,o8,← eG,gK,gK,Dr,Dq,G8,eG,eG];exact ab g (bh _)
theorem yn {n a:aB}(j:IsL s.c l b n)(f:s.c.IsSliceOf c (.O a t) .s .s)(C:a<=b.k)(r:b.k<=ph)
  (h:∀g:rU bz->rU bz,(g b).u=b.u.K a->Q () {s with heap:=s.c.update l (n6 g)}):bc (rM prog w) A (JY (.t l) (.t c)) Q E s:=by
 have u:s.S (.t l) "list":=bQ _ j af
 refine l8 (id f) λv i q z=>?_;refine wpAny_delItem_slot u af F.slot_list_delitem (A6 F.slot_list_delitem u F.entry_list_delitem ?_ (F.args_list_delitem_2 _ _));show bc _ _ (gu (.t c) >>= _) _ _ s;refine aG (Ad f ?_);show bc _ _ (typeOf (.t c) >>= _) _ _ s;apply jI;intro G;refine aG (zt ((bQ v i q):s.S (.t c) "slice") ?_)
 rw [dA (by decide)];refine aG (vZ f (.O _ _) .s ?_);unfold jV;refine aG (aG (uL j af (br ?_)));refine aG (uM (sliceIndices_raw (ah a) aq aq b.k (by simp)) ?_);have B:CB (ah (a:aU)) aq aq b.k=((a:aU),(b.k:aU),1):=by
  unfold CB;have D:vV (0:aU) (jd (a:aU) (b.k:aU))=a:=by refine aA (eW (cy.i C)) ?_;rw [jS (bq a)]
  simp [(dQ.i (bq a)),D]
 refine aA B ?_;refine aG (EK ?_);apply aG;show bc _ _ (updateSeq l _) _ _ s;have e:∀(p:aB->bC),(∀k,k<b.k->p k=bg (a<=k))->(b.u.zipIdx.jB λx=>if p x.2 then aq else ah x.1)=b.u.K a:=λp y=>K9 p _ a λk o=>y k (by simpa using o)
 have d:∀k,k<b.k->(bg ((a:aU)<=k)&&bg ((k:aU)<b.k)&&(((k:aU)-a)%1==0))=bg (a<=k):=λk o=>by
  refine aA (bF (cM.i o)) ?_;rw [tv,Int.emod_one];simp
 refine wpAny_updateSeq j af ?_ r ?_
 ·refine aG (wpAny_letGo ?_);refine aG (m:=ret .s) (br (br (bQ .s af (h _ ?_))));show (List.filterMap _ b.u.zipIdx).N.u=_;exact aA List.toList_toArray (e (λk=>bg ((a:aU)<=k)&&bg ((k:aU)<b.k)&&(((k:aU)-a)%1==0)) d)
 ·show (List.filterMap _ b.u.zipIdx).N.k<=_;refine aA List.size_toArray ?_;apply ab (List.length_filterMap_le _ _);simp only [List.length_zipIdx,eG];exact b7 r
end
open PySem PySem.Calls PyProof.Rows PySem.SeqAt MeetsSeq
def OkU (c:Cx)(e:Ev)(s:bH)(ρ:iV)(Q:QX)(QC:Unit->bH->Prop):Prop:=
 ∀d b a,iF s d->c.P ρ s.c b d.c->c.S b e a d->Q a->QC () d
theorem Bk:fillsInplaceSlot (.v "list") "add" (Operator.Add==.Add)=ij aw:=by
 unfold fillsInplaceSlot;show (typeLookup (.v "list") (dunderI "add") >>= λa=>ij (a.kI&&!isSeqSlot a))=ij aw
 rw [typeLookup_type];refine aA builtinLookup_eq_fast ?_;kernel_rfl
theorem Ir:seqSlot? (.v "list") (dunderI "add")=ij (ah (.z "list.__iadd__")):=by
 unfold seqSlot?;rw [typeLookup_type];refine aA builtinLookup_eq_fast ?_;kernel_rfl
section
variable {c:Cx}{e:Ev}{s:bH}{ρ:iV}{σ:a8}{Q:QV}{X:QX}{QC EC:bz->bH->Prop}{UC:Unit->bH->Prop}{A:k8}
theorem tw (h:mr a i x σ X)(S:c.S ρ e σ s)(m:c.V s.c ρ a w)(M:c.V s.c ρ i Z)(J:c.V s.c ρ x v)(H:OkU c e s ρ X UC) :
  bc c.M A (lX w Z v) UC EC s:=by
 apply gl;intro g9;refine od h m λr m h=>?_;cases i with
 |d i=>
  obtain ⟨t,rfl⟩:=M;refine lj h S m (λw=>bc c.M A (lX w _ v) UC EC s) λl p C n L h=>?_;refine bf (hR h) λk hk q=>?_;apply zK L.b (dw L.f hk) (dw L.f L.g);obtain ⟨P,S'⟩:=Cx.S.o4 S L.h L.b (g:=(·.jX k v)) af (by refine aA Array.toList_setIfInBounds ?_;exact L.d.set k J) (by refine aA bX ?_;exact L.g);exact H _ ρ _ (fK af af af (au _)) P S' q
 |c u=>
  refine l8 (FG h) λY h1 N q=>?_;refine bf M λt I _=>?_;subst I;obtain ⟨⟨p,d⟩,rfl,D⟩:=m;obtain ⟨e1,B,T,V,hz'⟩:=S.K.G _ _ _ D h1;obtain rfl:=(e1:d=aq);refine wpAny_setItem_pairs (EP _ _ _ t) T (λW f O=>?_) (dw V.X1 (ab (dK N) fx));have b:p∈iL ρ:=ky D (og _);refine bf (S.K.H b) λoa F hi=>?_;have j:∃y,W.f p=ah y:=by obtain ⟨y,_,_,G,_⟩:=f;exact ⟨y,G⟩
  have P:c.P ρ s.c ρ W:=qo.R O j F hi b;have z:(B.d (·.1)).kl:=by obtain ⟨_,_,_,_,_,_,_,_,z⟩:=T;exact z
  exact H _ ρ _ (fK af af af (bh _)) P ((S.l (bh _)).k (S.toSt.upd (o:=.d (xR u x Y)) D (og _) O j ⟨af,_,f,(V.put u J z).abH P.B (iV.g.d _),ab (C3 u x Y) N⟩).2) q
 |_=>exact h.e
theorem xJ {a M O x:AV}(h:Af a M O x σ X)(S:c.S ρ e σ s)(B:c.V s.c ρ a f)(P:c.V s.c ρ M y)(T:c.V s.c ρ O t)(z:c.V s.c ρ x d)(H:OkU c e s ρ X UC) :
  bc c.M A (lX f (.t s.c.q.k) d) UC EC (ku s y t):=by
 refine od h B λr B h=>i8 h P (λy=>bc c.M A (lX f (.t s.c.q.k) d) UC EC (ku s y t)) λi m h=>i8 h T (λt=>bc c.M A (lX f (.t s.c.q.k) d) UC EC (ku s (.O i m) t)) λj u h=>od h z λV z h=>?_;have J:c.P ρ s.c ρ (ku s (.O i m) (.O j u)).c:=qo.K _;have I:c.S ρ e σ (ku s (.O i m) (.O j u)):=S.p _;refine lj h I (J.s B) (λf=>bc c.M A (lX f (.t s.c.q.k) d) UC EC (ku s (.O i m) (.O j u))) λl p C n L h=>lj h I (J.s z) (λd=>bc c.M A (lX (.t p) (.t s.c.q.k) d) UC EC (ku s (.O i m) (.O j u))) λl' Y b Z v h=>?_;refine acJ h λD G W F N q=>?_;subst G;obtain ⟨k,rfl⟩:=dn W;apply xK L.b v.b (λq=>S.K.I r V _ _ D L.h v.h p (og _) (dw q (og _))) (lB ..) (dw L.f (cy.g F)) (L.f▸v.f▸ab N fx);have o:=Cx.S.o4 I L.h L.b (g:=λw=>w.extract 0 k++b++w.extract k w.k)
  af (by
   refine aA gK ?_;rw [gK,Dr,Dq];exact ((L.d.Pw k).pK v.d).pK (L.d.Vz k)) (by rw [G8];exact N)
 exact H _ ρ _ (fK af af af (au _)) (J.A o.1) o.2 q
theorem zP {a q:AV}(h:Dv a q σ X)(S:c.S ρ e σ s)(m:c.V s.c ρ a d)(v:c.V s.c ρ q f)(H:OkU c e s ρ X UC) :
  bc c.M A (JY d (.t s.c.q.k)) UC EC (ku s f .s):=by
 refine od h m λr m h=>i8 h v (λf=>bc c.M A (JY d (.t s.c.q.k)) UC EC (ku s f .s)) λi j h=>?_;have u:c.P ρ s.c ρ (ku s (.O i j) .s).c:=qo.K _;have t:c.S ρ e σ (ku s (.O i j) .s):=S.p _;refine lj h t (u.s m) (λd=>bc c.M A (JY d (.t s.c.q.k)) UC EC (ku s (.O i j) .s)) λl p o n L h=>?_;obtain ⟨k,rfl⟩:=dn h.1;refine yn L.b (lB ..) (dw L.f (cy.g h.2.1)) (dw L.f (ab L.g fx)) λg w=>?_;have b:=Cx.S.o4 t L.h L.b af (aA w (L.d.Pw k)) (ab (mh ..) L.g);exact H _ ρ _ (fK af af af (au _)) (u.A b.1) b.2 h.2.2
theorem tO (v:σ[r]?=ah (.a l))(i:l.a<gL)(q:Q .h (σ.w r (.a (l++[x]))))(S:c.S ρ e σ s)(o:c.V s.c ρ (.e r) k)(m:c.V s.c ρ x b)(H:n4 c e s ρ Q QC) :
  bc c.M A (k6 (.z "list.append") [k,b]) QC EC s:=by
 refine Bx (Cx.S.kH S v o) λp a n f t d h z=>?_;subst f;have w:=h.ny;have u:=fx;refine pk wF (bQ _ d af) F.entry_list_append (F.args_list_append_2 _ _) (list_append p a n b (dw w (ab (dK i) u))) ⟨d,?_⟩;obtain ⟨P,y⟩:=Cx.S.o4 (l':=l++[x]) S t d (g:=λj=>j.push b) af (by
  refine aA Array.toList_push ?_;exact h.pK (.ZC m)) (aA ai i)
 exact H _ _ ρ _ _ (fK af af af (au _)) P y Bg q
theorem IA (z:σ[r]?=ah (.a (l++[x])))(q:Q x (σ.w r (.a l)))(S:c.S ρ e σ s)(u:c.V s.c ρ (.e r) o)(H:n4 c e s ρ Q QC) :
  bc c.M A (k6 (.z "list.pop") [o]) QC EC s:=by
 refine Bx (Cx.S.kH S z u) λp a n j w i f h=>?_;subst j;have b:=f.ny;rw [ai] at b h;have b:l.a+1=a.k:=b;have y:=fx;refine bf (f.Px eJ) λv k t=>?_;rw [dI] at k;have d:a.k-1=l.a:=dw b af;refine pk F.slot_list_pop (bQ _ i af) F.entry_list_pop (F.args_list_pop_1 _) (list_pop_last p a n v (aA d k) (dw b (ab h y))) ⟨i,?_⟩;obtain ⟨P,C⟩:=Cx.S.o4 S w i (g:=λm=>m.eraseIdxIfInBounds (a.k-1)) af (by
  have B:(a.eraseIdxIfInBounds (a.k-1)).u=a.u.K l.a:=by
   unfold Array.eraseIdxIfInBounds;refine aA (dif_pos (b▸cA _)) ?_;rw [Array.toList_eraseIdx,d,List.eraseIdx_eq_take_drop_succ,qz (eG▸b▸au _),bD]
  refine aA B ?_;have:=f.Pw l.a;rw [z7] at this;exact this) (aT h)
 exact H _ _ ρ _ _ (fK af af af (au _)) P C (P.s t) q
theorem sO (h:yk w a b σ Q)(S:c.S ρ e σ s)(m:c.V s.c ρ a k)(o:c.V s.c ρ b j)(H:n4 c e s ρ Q QC) :
  bc c.M A (vQ (xS w) k j) QC EC s:=by
 apply gl;intro M;cases w with
 |a=>
  cases a with
  |e r=>
   refine od h o λI o h=>lj h S m (λk=>(c.V s.c ρ (.e r) k)->bc c.M A (vQ .Add k j) QC EC s) (λl p f n L h m=>lj h S o (λj=>bc c.M A (vQ .Add (.t p) j) QC EC s) λJ B d C q h=>?_) m;have i:=ab h.2.1 fx;have v:s.S (.t p) "list":=bQ _ L.b af
   rw [L.f,q.f] at i;unfold vQ;refine b9 (aG (zt v (aG (uM Bk ?_))));show bc _ A (if aw=ax then _ else _) _ _ s
   refine aA (dA bJ) ?_;apply J5;intro G;refine aG (binaryOp1_none v (bQ _ q.b af) noFill_list_add ?_);refine aG (uM Ir ?_);refine aG (EK ?_);refine pk F.slot_list_iadd v F.entry_list_iadd (F.args_list_iadd_2 _ _) (AutoSeq1.list___iadd___list_list_0 p f n B d C ?_ (ab (ak ..) i) (b7 i)) (dX L.b q.b ?_)
   ·have:gZ (f.k+d.k)=aw:=by
     unfold gZ;exact bR (iZ.i i)
    refine aA this ?_;simp
   ·obtain ⟨P,D⟩:=Cx.S.o4 S L.h L.b (g:=λz=>z++d) af (by refine aA gK ?_;exact L.d.pK q.d) (by refine aA ai ?_;exact h.2.1);exact H _ _ ρ _ _ (fK af af af (au _)) P D (P.s m) h.2.2
  |d x=>
   obtain ⟨t,rfl⟩:=m;exact i8 h o (λj=>bc c.M A (vQ .Add (.O x t) j) QC EC s) λy u h=>PyProof.Rows.iadd_int (H.zc S gz h (bh _))
  |_=>exact h.e
 |c=>exact oc h m o (λk j=>bc c.M A (vQ .Sub k j) QC EC s) λx t y u h=>PyProof.Rows.isub_int (H.zc S gz h (bh _))
 |_=>exact h.e
end
open PySem PySem.Calls PyProof.Rows PySem.SeqAt PySem.NumText
noncomputable def yr:Bi->bz
 |.a=>.z "len" |.h=>.v "str" |.e=>.v "int" |.d=>.z "abs" |.c=>.v "range"
 |.f=>.z "min" |.i=>.z "max" |.b=>.v "tuple" |.g=>.v "type"
theorem yf (i):Str.ofString (toString i)=dq (cU i):=Str.ofString_eq_toList _
theorem x6 (b:0<k)(h:n<2 ^ k):n.log2<k:=by
 by_cases a:n=0
 ·subst a;simpa using b
 ·exact (Nat.log2_lt a).i h
theorem Bv (h:i.o<2 ^ 100):(cU i).a<=gL:=by
 have e:=int_text_length_le (by decide) (x6 (by decide) h);simp only [cU,ay,String.length_toList];exact ab e (aa af)
theorem IT (x):ma x=o5 x:=by
 unfold ma o5;congr 1;funext n c;exact aW (·+(c-48)) (Nat.mul_comm 10 n)
set_option tactic.hygienic true in
theorem lE (d:c=1\/c=-1):Builtin.Range.rangeSize a b c=((dc a b c).a:aU):=by
 rcases d with rfl|rfl
 ·rw [rangeSize_one];simp only [dc,vO,ay,iq];split
  ·rename_i h;exact (iI (jH (i7 h))).h
  ·rename_i h;exact (aW gc (wK.i (mn (dQ.g h)))).h
 ·unfold Builtin.Range.rangeSize;have:dc a b (-1)=(ew (a-b).p).d λ(k:aB)=>a-(k:aU):=by
   unfold dc;exact aA (dA (by decide)) (aA (c7 af) af)
  refine aA this ?_;rw [ay,iq];simp;split
  ·rename_i h;exact (zI (jH (i7 h))).h
  ·rename_i h;exact (jS (mn (dQ.g h))).h
theorem abP (a b):dc a b (-1)=(ew (a-b).p).d λ(k:aB)=>a-(k:aU):=by unfold dc;refine aA (dA (by decide)) ?_;rw [c7 af]
theorem Im (x:aU):x.p<=x.o:=by cases x<;>first|exact au _|exact bG _
theorem GV {a b:aU}(d:a.o<=n9)(c:b.o<=n9):(a-b).p<=2*n9:=
 ab (Im _) (ab (Int.natAbs_sub_le a b) (ab (aL d c) (aV (Nat.two_mul _).h)))
theorem xN (e:a.o<=n9)(d:b.o<=n9):(dc a b c).a<=2*n9:=by
 unfold dc;split
 ·rw [ay];refine aA iq ?_;exact GV d e
 ·split
  ·rw [ay];refine aA iq ?_;exact GV e d
  ·exact bG _
theorem Dp (h:i.o<=2*n9):Builtin.Range.rangeFitsLong i:=by
 have h:=h;unfold Builtin.Range.rangeFitsLong;exact ae.i ⟨bF (Int.neg_le_of_neg_le (ee (Int.le_natAbs) (aA (Bb i) (cy.i (ab h (by decide)))))),bF (n7 Int.le_natAbs (cM.i (aQ h (by decide))))⟩
theorem ON {n:aB}(h:n<=gL):(n:aU)<2 ^ 63:=n7 (cy.i h) (by decide)
theorem Ag (f:c=1\/c=-1)(g:a.o<=n9)(e:b.o<=n9):Builtin.Range.small a b c:=by
 have d:∀{n:aB},n<=n9->n<=2*n9:=λh=>ab h (aa af);unfold Builtin.Range.small;refine aA (lE f) ?_;rw [Dp (d g),Dp (d e),Dp (i:=((dc a b c).a:aU)) (xN g e)];rcases f with rfl|rfl
 ·refine aA (c7 (by decide)) (aA (show b+((1:aU)-1)=b from nv b) (aA (Dp (d e)) ?_));exact Bool.or_true _
 ·refine aA (dA (by decide)) (aA (show b+((-1:aU)+1)=b from nv b) (aA (Dp (d e)) ?_));exact Bool.or_true _
theorem qF (d:c=1\/c=-1)(i)(h:i<(dc a b c).a):(dc a b c)[i]?=ah (a+i*c):=by
 rcases d with rfl|rfl
 ·simp only [dc,vO,ay,iq] at h ⊢;simp [h]
 ·rw [abP] at h ⊢;simp only [ay,iq] at h;simp [h];exact uT
section
variable {c:Cx}{e:Ev}{s:bH}{ρ:iV}{σ:a8}{Q:QV}{X:QX}{QC EC:bz->bH->Prop}{A:k8}
theorem n4.RO (H:n4 c e s ρ Q QC)(S:c.S ρ e σ s)(f:∀b o,s.c.f b=ah o->g.f b=ah o)(d:s.D<=tk)(r:c.V g ρ a v)(q:Q a σ):QC v {s with heap:=g,toks:=tk}:=
 H v _ ρ a σ (fK af af af d) (qo.D f) ((S.l d).k (S.toSt.U f)) r q
theorem n4.GJ (H:n4 c e s ρ Q QC)(S:c.S ρ e σ s)(h:∀b o,s.c.f b=ah o->f.f b=ah o)(p:s.c.f D=aq)(n:N5 f D d)
  (j:iM c.z f ρ vs d.u) (k:vs.a<=gL) (g:s.D<=tk) (q:Q (.e σ.a) (σ++[.a vs])):QC (.t D) {s with heap:=f,toks:=tk}:=by
 have i:∀a∈zj (D,aq),s.c.f a=aq:=λa m=>aA (a6.g m) p;have P:c.P ρ s.c (ρ.f (D,aq)) f:=.P (iV.g.f _ _) (tC i) h;exact H _ _ (ρ.f (D,aq)) (.e σ.a) (σ++[.a vs]) (fK af af af g) P ⟨(S.toSt.DB P (oH S.E h) (S.K.N S.E h (.a vs) i (eC.i ⟨dm,jz⟩) ⟨af,d,n,(j.FP (λz z e z=>e) (iV.g.f _ _)),k⟩)),aS S.j g,λt l=>S.g t (ab g l),S.i⟩ (bQ (D,aq) af (dw S.K.D eJ)) q
theorem iM.acU (a:xs.a=vs.a)(k:∀(i:aB) x v,xs[i]?=ah x->vs[i]?=ah v->RV base h ρ x v):iM base h ρ xs vs:=by
 induction xs generalizing vs with
 |nil=>exact gE.g a.h
 |cons x xs b=>
  cases vs with
  |nil=>injection a
  |cons v vs=>exact jf v vs af (k 0 x v af af) (b (js a) λi=>k (i+1))
theorem Zx (q:iM base h ρ [x] vs):∃v,vs=[v]/\RV base h ρ x v:=by
 refine mO q λv vs a c b=>?_;subst a;obtain rfl:=(b:vs=[]);exact bQ v af c
theorem Zw (q:iM base h ρ [x,y] vs):∃v w,vs=[v,w]/\RV base h ρ x v/\RV base h ρ y w:=by
 refine mO q λv vs a d c=>?_;subst a;refine bf (Zx c) λw a b=>?_;subst a;exact jf v w af d b
theorem G1 (h:IsL s.c p b n) (f:iM c.z s.c ρ l b.u) (g:l.a<=gL) (q:Q (.d l.a) σ) (S:c.S ρ e σ s) (H:n4 c e s ρ Q QC):bc c.M A (k6 (.z "len") [.t p]) QC EC s:=by
 have d:gL=1000000:=af;have a:=f.ny;exact PyProof.Rows.len_list h.isList (ON (dw a g)) (dw a (H.zc S gz q (ak _ 2)))
theorem II (h:YS a σ Q) (S:c.S ρ e σ s) (r:c.V s.c ρ a v) (H:n4 c e s ρ Q QC):bc c.M A (k6 (.z "len") [v]) QC EC s:=by
 have y:gL=1000000:=af;have k:s.D<=s.D+1+1:=ak _ 2;apply gl;intro I;cases a with
 |e F=>
  refine bf (lk h) λl D q=>?_;refine Bx (Cx.S.kH S D r) λp g n d G B f i=>?_;subst d;exact G1 B f i q S H
 |c x=>
  refine l8 r λt d i _=>?_;subst d;refine PySem.P.len_str (by rw [dD];exact fP.i (ON i)) ?_;rw [dD];exact H.zc S gz h k
 |f l=>
  refine oh r λp g d o f i=>?_;subst d;have j:=f.ny;exact PyProof.Rows.len_tuple o.JP (ON (dw j i)) (dw j (H.zc S gz h k))
 |j l=>
  refine oh r λp g d m f i=>?_;subst d;obtain ⟨n,o⟩:=m;exact G1 (S.E _ _ o) f i h S H
 |k a b c=>
  refine vf h λC i q=>?_;refine l8 r λp d m _=>?_;subst d;refine O2 m λt u w z=>?_;exact call_len_range z (lE C) (ON i) (H.zc S gz q k)
 |_=>exact h.e
theorem CU (h:Ka a σ Q) (S:c.S ρ e σ s) (r:c.V s.c ρ a v) (H:n4 c e s ρ Q QC):bc c.M A (k6 (.v "int") [v]) QC EC s:=by
 apply gl;intro l;cases a with
 |g b=>
  obtain rfl:=(r:v=.bool b);exact call_int_bool (H.zc S gz h (bh _))
 |c x=>
  refine bf r λt f z=>?_;subst f;refine Bz h λk g j q=>?_;refine PySem.W.KIN.call_text ?_ (by rw [dD];exact ab g (aa af)) (H.zc S gz q (bh _));rw [IT];have:=intText_digits (x:=dq x) (by
   intro d i;have:=dz.g j d (by simpa [dq] using i)
   simpa [eE] using this) (by simpa [dq] using k) (by rw [dD];exact ab g (aa af))
  simpa [dq] using this
 |_=>exact h.e
theorem uY {a b st:aU}(f:st=1\/st=-1)(h:a.o<=n9)(g:b.o<=n9)(d:s.D<=tk)(q:Q (.k a b st) σ)(S:c.S ρ e σ s)(H:n4 c e s ρ Q QC) :
  QC (.t s.c.q.k) {s with heap:=s.c.push {cls:=.v "range",data:=.T #[.O a i,.O b j,.O st k]},toks:=tk}:=
 H.RO (a:=.k a b st) S (Kp.w5 _) d (U2 _ af (UZ _ _ _ (IsRange.new ..)) h g f) q
set_option tactic.hygienic true in
theorem I8 (B:A.handled=aq)(h:Zt b a σ Q)(S:c.S ρ e σ s)(r:c.V s.c ρ a v)(H:n4 c e s ρ Q QC) :
  bc c.M A (k6 (yr b) [v]) QC EC s:=by
 apply gl;intro C;cases b with
 |a=>exact II h S r H
 |h=>
  cases a with
  |d x=>
   obtain ⟨t,rfl⟩:=r;exact PySem.P.str_of_int (cH (x6 (aa af) h.1) (aa af)) (aA (yf _) (H.Tz S (Bv h.1) h.2))
  |c x=>
   refine bf r λt g i=>?_;subst g;exact PySem.P.str_of_str (H.mz S (uX i) h)
  |_=>exact h.e
 |e=>exact CU h S r H
 |d=>
  refine i8 h r (λv=>bc c.M A (k6 (.z "abs") [v]) QC EC s) λx t h=>fT (au _) (call_abs_int λu y k=>H.zc S ?_ h k)
  exact dw (show (if x<0 then -x else x)=(x.o:aU) by
   split
   ·rename_i h;exact (Int.ofNat_natAbs_of_nonpos (i7 h)).h
   ·rename_i h;exact (Int.natAbs_of_nonneg (dQ.g h)).h) gz
 |c=>exact i8 h r (λv=>bc c.M A (k6 (.v "range") [v]) QC EC s) λx t h=>call_range_1 (uY (.C af) (bG _) (ab h.1 (aa af)) (ak _ 2) h.2 S H)
 |b=>
  refine od h r λz r h=>lj h S r (λv=>bc c.M A (k6 (.v "tuple") [v]) QC EC s) λl p d n L q=>(call_tuple_list L.b.isList (λw m=>?_) (dw L.f (ab L.g fx)))
  have f:Kp s.c (w.push {cls:=.v "tuple",data:=.seq d}):=λb o e=>bE _ (m b o e)
  exact H.RO (a:=.f l) S f (au _) (yg _ d af ⟨0,bY _ af⟩ ((qo.D (F:=c.F) (own:=wR) f).M L.d) L.g) q
 |g=>
  cases a with
  |d x=>obtain ⟨t,rfl⟩:=r;exact J0 (EO _ _ _) af (H.mz S (show c.V s.c ρ (.l (.v "int")) _ from af) h)
  |f l=>obtain ⟨t,d,rfl,⟨n,j⟩,_⟩:=r;exact J0 (bQ _ j af) af (H.mz S (show c.V s.c ρ (.l (.v "tuple")) _ from af) h)
  |_=>exact h.e
 |_=>exact h.e
theorem I7 (g:A.handled=aq)(h:Zs b x y σ Q)(S:c.S ρ e σ s)(l:c.V s.c ρ x v)(k:c.V s.c ρ y w)(H:n4 c e s ρ Q QC):bc c.M A (k6 (yr b) [v,w]) QC EC s:=by
 refine oc h l k (λv w=>bc c.M A (k6 (yr b) [v,w]) QC EC s) λa t i u h=>?_;cases b with
 |c=>exact call_range_2 (uY (.C af) h.1 h.2.1 (bh _) h.2.2 S H)
 |f=>
  refine fT (au _) (min_two_ints g λm j f d=>H.RO S f d ?_ h);rcases Int.lt_or_le i a with q|q
  ·refine aA (c7 q) (aA (gi (i7 q)) ?_);exact gz
  ·refine aA (dA (dQ.i q)) (aA (eW q) ?_);exact gz
 |i=>
  refine fT (au _) (max_two_ints g λm j f d=>H.RO S f d ?_ h);rcases Int.lt_or_le a i with q|q
  ·refine aA (c7 q) (aA (jS (i7 q)) ?_);exact gz
  ·refine aA (dA (dQ.i q)) (aA (zI q) ?_);exact gz
 |_=>exact h.e
theorem I6 (h:Zr b x y z σ Q)(S:c.S ρ e σ s)(l:c.V s.c ρ x v)(g:c.V s.c ρ y w)(f:c.V s.c ρ z u)(H:n4 c e s ρ Q QC):bc c.M A (k6 (yr b) [v,w,u]) QC EC s:=by
 cases b with
 |c=>
  refine i8 h l (λv=>bc c.M A (k6 (.v "range") [v,w,u]) QC EC s) λa i h=>i8 h g (λw=>bc c.M A (k6 (.v "range") [_,w,u]) QC EC s) λp j h=>i8 h f (λu=>bc c.M A (k6 (.v "range") [_,_,u]) QC EC s) λo k h=>?_
  refine Bz h λn m d q=>?_;subst d;exact call_range_3 (by decide) (uY (.y af) n m (au _) q S H) (.C (C6 (aa af)))
 |_=>exact h.e
theorem Lk (g:A.handled=aq)(h:biW b as σ Q)(S:c.S ρ e σ s)(a:iM c.z s.c ρ as vs)(H:n4 c e s ρ Q QC) :
  bc c.M A (k6 (yr b) vs) QC EC s:=by
 apply gl;intro j;cases as with
 |nil=>exact h.e
 |cons x as=>
 obtain ⟨v,vs,rfl,d,a⟩:=a;cases as with
 |nil=>obtain rfl:=(a:vs=[]);exact I8 g h S d H
 |cons y as=>
 obtain ⟨w,vs,rfl,f,a⟩:=a;cases as with
 |nil=>obtain rfl:=(a:vs=[]);exact I7 g h S d f H
 |cons z as=>
 obtain ⟨u,vs,rfl,i,a⟩:=a;cases as with
 |nil=>obtain rfl:=(a:vs=[]);exact I6 h S d f i H
 |cons _ _=>exact h.e
end
open PySem PySem.Calls PyProof.Rows PySem.SeqAt
noncomputable def Li:Bm->xy
 |.a=>"list.append" |.b=>"list.pop" |.d=>"str.isascii" |.c=>"str.isalpha" |.f=>"str.isalnum" |.g=>"str.isdigit"
 |.h=>"str.lower" |.j=>"str.find" |.i=>"str.replace" |.e=>"str.join"
theorem Vu:∀c<128,Unicode.isAlpha c=gP c:=by decide +kernel
theorem Vv:∀c<128,Unicode.isAlnum c=(gP c||eE c):=by decide +kernel
theorem Vl:∀c<128,Unicode.isDigit c=eE c:=by decide +kernel
theorem Dg (h:c<128):Txt.isalpha (dq [c])=gP c:=by
 refine dw (Vu c h) ?_;simp [Txt.isalpha,dq,A9]
theorem Dh (h:c<128):Txt.isalnum (dq [c])=(gP c||eE c):=by
 refine dw (Vv c h) ?_;simp [Txt.isalnum,dq,A9]
theorem De (h:c<128):Txt.isdigit (dq [c])=eE c:=by
 refine dw (Vl c h) ?_;simp [Txt.isdigit,dq,A9]
theorem Df (c:aB):Txt.isascii (dq [c])=cL c 128:=by
 rw [gH];simp [Txt.isascii,dq,cL];exact Nat.lt_succ_iff
theorem C9 (h:∀c∈x,c<128):Txt.lower (dq x)=dq (x.d tE):=by
 refine aA (lower_ascii (x:=dq x) (by simpa [dq] using h)) ?_;simp only [dq,List.map_toArray];congr 2;apply jW;intro c _;unfold lo1 tE Uj;simp
theorem O0 (p:0<=i)(u:i<=x.a):Txt.find3 (dq x) (dq [c]) i=An c x i.p:=by
 obtain ⟨m,rfl⟩:=dn p;have l:fromIndex (dq x).a m=m:=by
  unfold fromIndex;refine aA (dA (dQ.i p)) ?_;refine aA (jS p) ?_;rfl
 have a:∀v (q:v<x.a),(dq x).cps.l v 0=x[v]:=λv q=>by
  simp [dq,Array.getD,q]
 show _=An c x m;unfold An;rcases StrLaws.find3_spec (dq x) c m with ⟨h,n⟩|⟨k,h,d,t,r,n⟩
 ·refine aA (show dq [c]=(⟨#[c]⟩:ft) from af) (aA h ?_);have:(x.m m).ng (·==c)=aq:=by
   rw [List.findIdx?_eq_none_iff];intro y s;obtain ⟨j,o⟩:=List.mem_iff_getElem?.g s;rw [kq] at o;have b:=a7.g o;have:=n (m+j) (dw l (ak _ _)) b.1;rw [a _ b.1,b.2] at this;exact dR.i this
  exact aA this af
 ·rw [l] at d n;have f:k<x.a:=t;refine aA (show dq [c]=(⟨#[c]⟩:ft) from af) (aA h ?_);have e:m+(k-m)=k:=Nat.add_sub_cancel' d;have:(x.m m).ng (·==c)=ah (k-m):=by
   rw [List.findIdx?_eq_some_iff_getElem];refine ⟨aA fS (Nat.sub_lt_sub_right d f),?_,λj o=>?_⟩
   ·rw [a k f] at r;simp only [List.getElem_drop,j0,e];exact r
   ·have g:m+j<k:=dw e (tq o m);have:=n (m+j) (ak _ _) g;rw [a _ (cH g f)] at this
    simpa using this
  refine aA this ?_;show (k:aU)=((m+(k-m):aB):aU);exact aA e af
theorem G3 (a:Tx):∀ts:ao Tx,Ba (dq a) (ts.d dq)=dq (eN a ts)
 |[]=>af
 |[x]=>af
 |x::y::r=>by
  have b:=G3 a (y::r);simp only [je] at b;show dq x++dq a++Ba (dq a) (dq y::r.d dq)=_;refine aA b ?_;rw [mM,mM];rfl
section
open PySem PySem.Calls PyProof.Rows PySem.SeqAt PySem.Builtin PySem.Builtin.Str
theorem GY:sH y l=ax↔l.K y.a=y:=by
 induction y generalizing l with
 |nil=>exact ⟨λz=>af,λz=>by cases l<;>rfl⟩
 |cons a y c=>
  cases l with
  |nil=>exact ⟨λh=>(bJ h).e,λh=>(cP _ _ h.h).e⟩
  |cons b l=>
   show (aM a b&&sH y l)=ax↔b::l.K y.a=a::y;rw [ae,c,Nat.beq_eq,List.cons_eq_cons];exact and_congr eq_comm Iff.rfl
theorem I9 (x y)(k):pq (dq x) (dq y) (dq x).a k->sH y (x.m k):=by
 rintro ⟨_,h⟩;rw [StrLaws.subAt_eq,dD] at h;exact GY.i (vX h)
theorem Iy (x y)(k)(b:k<=x.a)(h:sH y (x.m k)):pq (dq x) (dq y) (dq x).a k:=by
 have h:=GY.g h;have a:=aW cC h;rw [pZ,fS] at a;refine ⟨?_,?_⟩
 ·rw [dD,dD];exact Nat.add_le_of_le_sub' b (ab (aV a.h) (gh _ _))
 ·rw [StrLaws.subAt_eq,dD];exact j0.i h
theorem xO (y z):∀l k,gk y z k l=ct y z (l.m k)
 |_,0=>af
 |[],_+1=>af
 |_::l,k+1=>xO y z l k
theorem Iw {y z l:Tx}(h:sH y (c::l)):ct y z (c::l)=z++ct y z (l.m (y.a-1)):=by
 show (match sH y (c::l) with|true=>z++gk y z (y.a-1) l|false=>c::gk y z 0 l)=_
 refine aA h ?_;rw [← xO]
theorem Iv {y z l:Tx}(h:sH y (c::l)=aw):ct y z (c::l)=c::ct y z l:=by
 show (match sH y (c::l) with|true=>z++gk y z (y.a-1) l|false=>c::gk y z 0 l)=_
 exact aA h af
theorem qH (x y z)(a):∀n,a+n<=x.a->(∀k,a<=k->k<a+n->¬ pq (dq x) (dq y) (dq x).a k)->
  ct y z (x.m a)=(x.m a).K n++ct y z (x.m (a+n)):=by
 intro g
 induction g with
 |zero=>
  intro _ _;exact af
 |succ n c=>
  intro i e;have b:a+n<x.a:=i;refine aA (c (dK b) λk l j=>e k l (bb j)) ?_;have f:x.m (a+n)=x[a+n]::x.m (a+n+1):=jQ b;have d:sH y (x[a+n]::x.m (a+n+1))=aw:=by
   refine dw f ?_;cases h:sH y (x.m (a+n)) with
   |false=>rfl
   |true=>exact bZ (Iy x y (a+n) (dK b) h) (e _ (ak ..) (cA _))
  refine aA f ?_;rw [Iv d,List.take_add_one,ag];congr 1;refine aA kq (aA (bV b) ?_);rfl
theorem Fi (x y z:Tx)(c)(f:y≠[])(h:pq (dq x) (dq y) (dq x).a c):ct y z (x.m c)=z++ct y z (x.m (c+y.a)):=by
 have d:=I9 x y c h;have e:=h.1;rw [dD,dD] at e;have a:=List.length_pos_iff.i f;have b:=aS (cX a) e;rw [(jQ b)] at d ⊢;exact aA (Iw d) (aA kP (aA (show c+1+(y.a-1)=c+y.a from (bW c 1 _).b (aW (c+·) (gF a))) af))
theorem Fh (x y z:Tx)(v:y≠[]):∀(b:ao aB) a f,StrLaws.ChainG (dq x) (dq y) (dq x).a a b f->(∀k,f<=k->¬ pq (dq x) (dq y) (dq x).a k)->a<=x.a->
  Ba (dq z) (StrLaws.partsFrom (dq x) (dq y).a a b)=dq (ct y z (x.m a)):=by
 intro u
 induction u with
 |nil=>
  intro a f h m n;subst h;have g:=qH x y z f (x.a-f) (aV (gF n)) λk o _=>m k o;rw [gF n,p6] at g;show strSub (dq x) f (dq x).a=_;refine aA g ?_;apply Str.ext';apply Array.toList_inj.g;rw [StrLaws.strSub_toList,dD];show (x.m f).K _=_++[];rw [bD]
 |cons c r j=>
  intro a f h m n;apply gl;intro C;refine Bz h λe i l w=>?_;have d:=i.1;rw [dD,dD] at d;have t:=j (c+(dq y).a) f w m (by rw [dD];exact d);refine O4 (StrLaws.partsFrom_ne (dq x) (dq y).a (c+(dq y).a) r) λp q s=>?_;show Ba (dq z) (strSub (dq x) a c::StrLaws.partsFrom (dq x) (dq y).a (c+(dq y).a) r)=_;rw [s] at t ⊢;show strSub (dq x) a c++dq z++Ba (dq z) (p::q)=_;refine aA t ?_;have g:=qH x y z a (c-a) (ab (aV (gF e)) (ab (ak _ _) d)) λk o A=>l k o (aS A (aV (gF e)));rw [gF e,Fi x y z c v i] at g;refine aA g ?_;have B:strSub (dq x) a c=dq ((x.m a).K (c-a)):=by
   apply Str.ext';apply Array.toList_inj.g;rw [StrLaws.strSub_toList];rfl
  refine aA B ?_;rw [mM,mM,dD,ag]
theorem C2 (y z)(x)(h:∀k,¬ pq (dq x) (dq y) (dq x).a k):ct y z x=x:=by
 have:=qH x y z 0 x.a (aV (dJ _)) λk w w=>h k;rw [dJ,p6,jA,xd] at this;exact aA this (bD x)
set_option tactic.hygienic true in
theorem OE (x y z:Tx)(d:y≠[]):Ij (dq x) (dq y) (dq z)=dq (ct y z x):=by
 have b:=List.length_pos_iff.i d;obtain ⟨f,c,e⟩:=StrLaws.occ_tight (dq x) (dq y) (by rw [dD];exact b);unfold Ij;have i:((dq y).a==0)=aw:=by rw [dD];exact dR.i (dW b)
 refine aA i ?_;rw [Bool.false_and,Bool.or_false];have a:=Fh x y z d _ 0 f c e (bG _);rw [jA] at a;split
 ·rename_i h
  have g:Ow (dq x) (dq y) 0 (dq x).a ((dq x).a+1)=[]:=by simpa using h
  rw [g] at c;have:f=0:=c;subst this;exact aA (C2 y z x λk=>e k (bG _)) af
 ·rw [StrLaws.glued_eq_join,StrLaws.partsBetween_eq];exact a
section
variable {c:Cx}{e:Ev}{s:bH}{ρ:iV}{σ:a8}{Q:QV}{X:QX}{QC EC:bz->bH->Prop}{A:k8}
theorem Vq (h:Lh m a σ P):P/\(((m=.a\/m=.b)/\∃r l,a=.e r/\σ[r]?=ah (.a l))\/(m≠.a/\m≠.b/\∃x,a=.c x)):=by
 cases a with
 |e r=>
  cases m with
  |a=>obtain ⟨l,b,h⟩:=lk h;exact ⟨h,.C ⟨.C af,r,l,af,b⟩⟩
  |b=>obtain ⟨l,b,h⟩:=lk h;exact ⟨h,.C ⟨.y af,r,l,af,b⟩⟩
  |_=>exact h.e
 |c x=>
  cases m with
  |a=>exact h.e
  |b=>exact h.e
  |_=>exact ⟨h,.y ⟨λq=>(by injection q),λq=>(by injection q),x,af⟩⟩
 |_=>exact h.e
theorem FE (h:Lh m a σ P)(S:c.S ρ e σ s)(r:c.V s.c ρ a v)(H:P->q (.z (Li m),[v]) s) :
  bc c.M A (getMethod v (yq m) w) q EC s:=by
 obtain ⟨p,⟨i,u,l,rfl,j⟩|⟨o,k,x,rfl⟩⟩:=Vq h
 ·have H:=H p;refine By (Cx.S.kH S j r) λp g n d z f z=>?_;subst d;rcases i with rfl|rfl
  ·exact getMethod_builtin ⟨_,f,af⟩ F.plainAttrs_list wF F.type_list_append (λa b=>by injection b with b;subst b;exact ⟨_,f,af⟩) H
  ·exact getMethod_builtin ⟨_,f,af⟩ F.plainAttrs_list F.slot_list_pop F.type_list_pop (λa b=>by injection b with b;subst b;exact ⟨_,f,af⟩) H
 ·have H:=H p;refine bf r λt d z=>?_;subst d;cases m with
  |a=>exact bZ af o
  |b=>exact bZ af k
  |d=>exact GM.isascii H
  |c=>exact GM.isalpha H
  |f=>exact GM.isalnum H
  |g=>exact GM.isdigit H
  |h=>exact GM.lower H
  |j=>exact GM.find H
  |i=>exact GM.replace H
  |e=>exact GM.join H
theorem GU (h:p7 (a::l)=ah ts):∃x b,a=.c x/\p7 l=ah b/\ts=x::b:=by
 cases a with
 |c x=>
  have h:(p7 l).d (x::·)=ah ts:=h;cases c:p7 l with
  |none=>exact ba (by refine aA c ?_;rfl) h
  |some b=>have h:=c▸h;exact jf x b af af ((aK h).h)
 |_=>exact ba af h
def TxV (ρ:iV)(ts:ao Tx)(vs:ao bz):Prop:=∃k:ao (ft×Tok),vs=JK k/\k.d (·.1)=ts.d dq/\∀p∈k,∃x:Tx,p.1=dq x/\x.a<=gL/\p.2≠0/\ρ.d p.2=ah x
theorem CR (e:p7 l=ah ts)(b:iM base h ρ l vs):TxV ρ ts vs:=by
 induction l generalizing ts vs with
 |nil=>exact b.nl (dw (aK e) (l4 [] af af (λz h=>bZ h dm)))
 |cons a l f=>
  refine mO (GU e) λx j d i c=>?_;subst d;subst c;exact b.el λv vs r b=>lU r λt r=>lU (f i b) λk q=>l4 ((dq x,t)::k) (r.1▸q.1▸af) (aW (dq x::·) q.2.1) (λp g=>(cz.g g).e (λe=>aA e (bQ x af r.2)) (q.2.2 p))
theorem zM (a)(ts):(eN a ts).a<=(ts.d cC).sum+ts.a*a.a:=by
 induction ts with
 |nil=>exact bG _
 |cons x r b=>
  refine aA je ?_;rw [fX,List.length_cons,wH];cases r with
  |nil=>exact ak x.a _
  |cons y r=>
   show (x++a++eN a (y::r)).a<=_;refine aA ai ?_;rw [ai,bW,bW];refine ar (ab (ar b _) (aV ?_)) _;rw [cv,bW]
theorem Bh (a b x)(k):(gk a b k x).a<=x.a+x.a*b.a:=by
 induction x generalizing k with
 |nil=>exact bG _
 |cons c l d=>
  refine aA List.length_cons ?_;rw [wH];cases k with
  |succ k=>exact ab (d k) (aL (bh _) (ak ..))
  |zero=>
   show (match sH a (c::l) with|true=>b++gk a b (a.a-1) l|false=>c::gk a b 0 l:Tx).a<=_
   cases sH a (c::l) with
   |true=>
    show (b++gk a b (a.a-1) l).a<=_;refine aA ai ?_;rw [← bW,cv];exact aj (ab (d _) (aj (bh _) _)) _
   |false=>
    show (gk a b 0 l).a+1<=_;rw [bo];exact az (ab (d 0) (ar (ak _ _) _))
set_option tactic.hygienic true in
theorem Ff {x y z:Tx}(I:y≠[])(m:y≠z)(i:x.a+(x.a+1)*z.a<=gL)(q:Q (.c (ct y z x)) σ)(S:c.S ρ e σ s)(r:c.V s.c ρ (.c x) v)(B:c.V s.c ρ (.c y) o)(p:c.V s.c ρ (.c z) n)(H:n4 c e s ρ Q QC) :
  bc c.M A (k6 (.z "str.replace") [v,o,n]) QC EC s:=by
 have d:=fx;refine bf r λt j C=>?_;subst j;obtain ⟨u,rfl,k⟩:=B;obtain ⟨w,rfl,l⟩:=p;have g:u≠w:=λe=>by subst e;have:=k.2.2;rw [l.2.2] at this;exact m (aK this).h
 have f:(dq y==dq z)=aw:=by
  rw [xf];cases q:bT y z with
  |false=>rfl
  |true=>exact bZ (gj.g q) m
 have D:xE ((dq x).a+(Ow (dq x) (dq y) 0 (dq x).a ((dq x).a+1)).a*(dq z).a)=aw:=by
  have G:(Ow (dq x) (dq y) 0 (dq x).a ((dq x).a+1)).a*(dq z).a<=((dq x).a+1)*(dq z).a:=jF _ (StrLaws.occ_length_le (dq x) (dq y) 0 (dq x).a ((dq x).a+1));rw [dD,dD] at *;unfold xE;exact bR (iZ.i (ab (ar G _) (ab i d)))
 have a:=OE x y z I;have b:(ct y z x).a<=gL:=by
  have:(ct y z x).a<=_:=Bh y z x 0;rw [Nat.add_mul,sD] at i;exact ab this (ab (ar (ak _ _) _) i)
 refine call_gives F.slot_str_replace (EN _ _ _) F.entry_str_replace (F.args_str_replace_3 _ _ _)
  (gives_str_replace (dq x) (dq y) (dq z) t u w λ_=>fK (by simp [k.2.1,l.2.1]) (by simp [g]) f D) ?_
 unfold Ij at a;split
 ·rename_i h
  rw [c7 h] at a;rw [← pC a] at q;exact H.mz S (uX C) q
 ·rename_i h
  rw [dA h] at a;exact aA a ⟨ab b d,H.Tz S b q⟩
theorem Fw (N:σ[G]?=ah (.a l))(M:p7 l=ah ts)(w:(ts.d cC).sum+ts.a*a.a<=gL)(q:Q (.c (eN a ts)) σ)(S:c.S ρ e σ s)(r:c.V s.c ρ (.c a) v)(D:c.V s.c ρ (.e G) B)(H:n4 c e s ρ Q QC) :
  bc c.M A (k6 (.z "str.join") [v,B]) QC EC s:=by
 have f:=fx;refine Bx (Cx.S.kH S N D) λp o n b P J j _=>?_;subst b;refine bf r λt b _=>?_;subst b;refine l8 (CR M j) λk O g u=>?_;have L:s.c.IsList p (JK k).N:=by
  exact dw O J.isList
 have i:xE ((k.d (·.1)).N.foldl (·+·.a+(dq a).a) 0)=aw:=by
  refine aA g ?_;rw [StrLaws.joinTotal,gR,ay,show ts.d (A9 ∘ dq)=ts.d cC from jW λx _=>dD x];unfold xE;exact bR (iZ.i (ab w f))
 have h:=ab (zM a ts) w;refine pk F.slot_str_join (EN _ _ _) F.entry_str_join (F.args_str_join_2 _ _) (meets_str_join_list (dq a) t p k i) ⟨L,?_⟩;have d:(Made.str (glued (dq a) (k.d (·.1)))).post (λv C=>QC v C) s:=by
  refine aA g ?_;rw [StrLaws.glued_eq_join,G3];exact ⟨ab h f,H.Tz S h q⟩
 apply gl;intro T;cases k with
 |nil=>exact d
 |cons m k=>
  cases k with
  |cons _ _=>exact d
  |nil=>
   refine bf (u m (dY ..)) λx z I=>?_;cases ts with
   |nil=>injection g
   |cons y ts=>
    cases ts with
    |cons _ _=>injection (List.cons.inj g).2
    |nil=>
     obtain rfl:=pC (z.h.b (List.cons.inj g).1);show QC (.str m.1 m.2) s;exact aA z (H.mz S (uX I) q)
theorem Fj (p:pA a λx=>Bj x P)(r:RV base h ρ a v)(G:bz->Prop)(k:∀c t,P c->G (.str (dq [c]) t)):G v:=
 sG p r G λx t z p=>by
  refine bf (Ku p) λc b p=>?_;subst b;exact k c t p
theorem FI {P:aB->Prop}(p:pA a λx=>Bj x λc=>sP (cL c 128) (P c))(r:RV base h ρ a v)(G:bz->Prop)(k:∀c t,c<128->P c->G (.str (dq [c]) t)):G v:=
 Fj p r G λc t p=>k c t (aa (qJ p).1) (qJ p).2
theorem IZ (h:Zp m a σ Q)(S:c.S ρ e σ s)(r:c.V s.c ρ a v)(H:n4 c e s ρ Q QC) :
  bc c.M A (k6 (.z (Li m)) [v]) QC EC s:=by
 apply gl;intro n;cases m with
 |b=>
  refine od h r λi r h=>?_;obtain ⟨j,g,l,x,rfl,q⟩:=lk h;exact IA g q S r H
 |d=>exact Fj h r (λv=>bc c.M A (k6 (.z "str.isascii") [v]) QC EC s) λk t h=>SC.isascii (H.mz S (by rw [Df];exact jY) h)
 |c=>exact FI h r (λv=>bc c.M A (k6 (.z "str.isalpha") [v]) QC EC s) λk t d h=>SC.isalpha (H.mz S (by refine aA (Dg d) ?_;exact jY) h)
 |f=>exact FI h r (λv=>bc c.M A (k6 (.z "str.isalnum") [v]) QC EC s) λk t d h=>SC.isalnum (H.mz S (by refine aA (Dh d) ?_;exact jY) h)
 |g=>exact FI h r (λv=>bc c.M A (k6 (.z "str.isdigit") [v]) QC EC s) λk t d h=>SC.isdigit (H.mz S (by refine aA (De d) ?_;exact jY) h)
 |h=>
  refine sG h r (λv=>bc c.M A (k6 (.z "str.lower") [v]) QC EC s) λx t f h=>?_
  have b:(x.d tE).a<=gL:=by rw [ay];exact f.1
  refine SC.lower ?_ ?_
  ·refine aA (C9 h.1) ?_;unfold xE;exact bR (iZ.i (ab b fx))
  ·exact aA (C9 h.1) (H.Tz S b h.2)
 |_=>exact h.e
theorem IY (h:Zo m a x σ Q)(S:c.S ρ e σ s)(r:c.V s.c ρ a v)(b:c.V s.c ρ x g)(H:n4 c e s ρ Q QC) :
  bc c.M A (k6 (.z (Li m)) [v,g]) QC EC s:=by
 apply gl;intro t;cases m with
 |a=>
  refine od h r λj r h=>?_;refine l8 (lk h) λl d k q=>?_;exact tO d k q S r b H
 |e=>
  refine bf (xI h) λi f h=>?_;subst f;refine od h b λj b h=>?_;obtain ⟨l,d,p,o,n,q⟩:=lk h;exact Fw d o n q S r b H
 |_=>exact h.e
theorem IX (h:Zn m a x y σ Q)(S:c.S ρ e σ s)(r:c.V s.c ρ a v)(j:c.V s.c ρ x f)(g:c.V s.c ρ y d)(H:n4 c e s ρ Q QC) :
  bc c.M A (k6 (.z (Li m)) [v,f,d]) QC EC s:=by
 apply gl;intro p;cases m with
 |j=>
  exact sG h r (λv=>bc c.M A (k6 (.z "str.find") [v,f,d]) QC EC s) λx t _ h=>Fj h j (λf=>bc c.M A (k6 (.z "str.find") [_,f,d]) QC EC s) λk u h=>i8 h g (λd=>bc c.M A (k6 (.z "str.find") [_,_,d]) QC EC s) λi w h=>SC.find3 (aA (O0 h.1 h.2.1) (H.zc S gz h.2.2 (bh _)))
 |i=>
  refine bf (xI h) λx b h=>?_;subst b;refine bf (xI h) λy b h=>?_;subst b;refine K3 (xI h) λz b o n l q=>?_;subst b;exact Ff o n l q S r j g H
 |_=>exact h.e
theorem Lg (h:Zm m a as σ Q)(S:c.S ρ e σ s)(r:c.V s.c ρ a v)(b:iM c.z s.c ρ as vs)(H:n4 c e s ρ Q QC) :
  bc c.M A (k6 (.z (Li m)) (v::vs)) QC EC s:=by
 apply gl;intro j;cases as with
 |nil=>obtain rfl:=(b:vs=[]);exact IZ h S r H
 |cons x as=>
 obtain ⟨i,vs,rfl,d,b⟩:=b;cases as with
 |nil=>obtain rfl:=(b:vs=[]);exact IY h S r d H
 |cons y as=>
 obtain ⟨g,vs,rfl,f,b⟩:=b;cases as with
 |nil=>obtain rfl:=(b:vs=[]);exact IX h S r d f H
 |cons _ _=>exact h.e
end
end
open PySem PySem.Calls PyProof.Rows PySem.SeqAt PySem.W
structure TC (K:pn)(C:eH):Prop where
 b:hasDictIn K C=ax
 a:plainGet K C ""=ax
 g:xB K (.t C) "__setattr__"=ah (ah (.z "object.__setattr__"))
 f:plainOver K C=ax
 d:∀x:At,xB K (.t C) (cN x)=ah aq
structure oZ (c:Cx):Prop where
 K:c.K.In c.z
 b:∀i C,c.J i=ah C->TC c.K C
 a:(c.z.f pg).kI=ax
 d:c.z.NoLimit
theorem yu:∀x y:At,cN x=cN y->x=y:=by
 intro x y h;cases x<;>cases y<;>first|rfl|(exact bZ h (by decide +kernel))
theorem Di:Value.isStr (.str (cN y) t) (cN x)=bg (y=x):=by
 show (cN y==cN x)=_;rw [gH];simp only [j0,decide_eq_true_eq];exact ⟨λq=>yu _ _ q,λq=>dw q af⟩
theorem uZ (x)(a)(p)(b):zL x a (p::b)=if p.1=x then (p.1,a)::b else p::zL x a b:=af
section
variable {base h:eI}{ρ:iV}
theorem EI.nl {P:ao DictEntry->Prop}(q:EI base h ρ [] l)(k:P []):P l:=by obtain rfl:=q;exact k
theorem EI.el {P:ao DictEntry->Prop}(q:EI base h ρ (p::i) l)(k:∀a b t,a.key=.str (cN p.1) t->RV base h ρ p.2 a.val->EI base h ρ i b->P (a::b)):P l:=by
 refine oh q λa b d c f e=>?_;subst d;obtain ⟨t,g⟩:=c;exact k a b t g f e
theorem EI.N7 {b:ao (At×AV)}(q:EI base h ρ b a):a.any (·.refKey)=aw:=by
 induction b generalizing a with
 |nil=>exact q.nl (P:=λa=>a.any (·.refKey)=aw) af
 |cons p b c=>
  refine q.el (P:=λa=>a.any (·.refKey)=aw) λf a t e z d=>?_;refine aA tu ?_;rw [c d,Bool.or_false];unfold DictEntry.refKey;exact aA e af
theorem Am (c:b.key=.str y t)(f:(y==a)=aw)(e:d.any (·.refKey)=aw):Ov a (b::d)=Ov a d:=by
 unfold Ov;refine aA zf (aA (show b.key.isStr a=aw by rw [c];exact f) (aA tu (aA e (aA (show b.refKey=aw by unfold DictEntry.refKey;rw [c]) ?_))));rfl
def abE (base h:eI)(ρ:iV)(o:aJ AV)(m:aJ (aJ bz)):Prop:=match o with
 |some a=>∃v,m=ah (ah v)/\RV base h ρ a v
 |none=>m=ah aq
theorem EI.adK (x:At){c:ao (At×AV)}(q:EI base h ρ c b):abE base h ρ (c.j x) (Ov (cN x) b):=by
 induction c generalizing b with
 |nil=>exact q.nl (P:=λb=>Ov (cN x) b=ah aq) af
 |cons p c f=>
  refine q.el (P:=λb=>abE base h ρ ((p::c).j x) (Ov (cN x) b)) λi b t e g d=>?_;refine aA iH ?_;by_cases a:x=p.1
  ·refine dw a ?_;rw [kh];refine bQ i.val ?_ g;unfold Ov;exact aA zf (aA e (aA Di (aA (bF a.h) af)))
  ·refine aA (dR.i a) (aA (Am e (dR.i λq=>a (yu _ _ q).h) d.N7) ?_);exact f d
theorem EI.abF {a:ft}(f:∀x:At,cN x≠a)(q:EI base h ρ d b):Ov a b=ah aq:=by
 induction d generalizing b with
 |nil=>exact q.nl (P:=λb=>Ov a b=ah aq) af
 |cons p d e=>exact q.el (P:=λb=>Ov a b=ah aq) λj b t g i c=>(Am g (dR.i (f p.1)) c.N7).b (e c)
theorem EI.put (x:At){hsh:aU}(f:RV base h ρ a v)(q:EI base h ρ d c):EI base h ρ (zL x a d) (putL (cN x) hsh (.str (cN x) tk) v c):=by
 induction d generalizing c with
 |nil=>exact q.nl (P:=λc=>EI base h ρ [(x,a)] (putL (cN x) hsh (.str (cN x) tk) v c)) (yg _ [] af ⟨tk,af⟩ f af)
 |cons p d j=>
  refine q.el (P:=λc=>EI base h ρ (zL x a (p::d)) (putL (cN x) hsh (.str (cN x) tk) v c)) λi c t e k g=>?_;unfold putL;refine aA (show i.key.isStr (cN x)=bg (p.1=x) from e▸Di) ?_;rw [uZ];by_cases b:p.1=x
  ·refine aA (c7 b) (aA (c7 (bF b)) ?_);exact yg _ _ af ⟨t,e⟩ f g
  ·refine aA (dA b) (aA (dA (bR b▸bJ)) ?_);exact yg i _ af ⟨t,e⟩ k (j g)
theorem EI.XZ {b:ao (At×AV)}(q:EI base h ρ b a):b.a=a.a:=by
 induction b generalizing a with
 |nil=>exact q.nl (P:=λa=>0=a.a) af
 |cons p b c=>exact q.el (P:=λa=>b.a+1=a.a) λz z z z z d=>aW ix (c d)
end
theorem Kr (x)(a)(h:y∈(zL x a b).d (·.1)):y=x\/y∈b.d (·.1):=by
 induction b with
 |nil=>exact .C (a6.g h)
 |cons p b d=>
  rw [uZ] at h;by_cases c:p.1=x
  ·rw [c7 c] at h;exact .y h
  ·rw [dA c] at h;exact (cz.g h).e (λh=>.y (aA h (dY ..))) λh=>(d h).I id (de _)
theorem xQ (d:(c.d (·.1)).kl):((zL x a c).d (·.1)).kl:=by
 induction c with
 |nil=>exact eC.i ⟨dm,jz⟩
 |cons p c e=>
  have h:=eC.g d;rw [uZ];by_cases b:p.1=x
  ·refine aA (c7 b) ?_;exact d
  ·refine aA (dA b) ?_;exact eC.i ⟨λq=>(Kr x a q).e b h.1,e h.2⟩
theorem Zv {l:ao At}(a:l.kl):l.a<=3:=by
 have:l ⊆ [At.ts,At.A5,At.r8]:=λx z=>by cases x<;>decide
 exact (List.Nodup.length_le_of_subset a this)
section
variable {c:Cx}{e:Ev}{s:bH}{ρ:iV}{σ:a8}{Q:QV}{X:QX}{QC EC:bz->bH->Prop}{UC:Unit->bH->Prop}{A:k8}
theorem IP (c:Fs a)(r:RV base h ρ a v):handedIn v:=by
 cases a with
 |h=>obtain rfl:=(r:v=.s);rfl
 |g b=>obtain rfl:=(r:v=.bool b);rfl
 |d i=>obtain ⟨_,rfl⟩:=r;rfl
 |l _=>injection c
 |c _=>obtain ⟨_,rfl,_⟩:=r;rfl
 |e _=>obtain ⟨_,rfl,_⟩:=r;rfl
 |k _ _ _=>obtain ⟨_,rfl,_⟩:=r;rfl
 |_=>obtain ⟨_,_,rfl,_⟩:=r;rfl
theorem Cx.S.Cy (S:c.S ρ e σ s)(q:σ[r]?=ah (.b k l))(o:c.V s.c ρ (.e r) v) :
  ∃p a C f b n,v=.t p/\ρ.l[r]?=ah (p,ah a)/\c.J k=ah C/\s.c.f a=ah (J2 b n)/\InstAt s.c p ⟨.t C,ah a,.plain,f⟩ C (ah (J2 b n))/\EI c.z s.c ρ l b/\(l.d (·.1)).kl:=by
 apply gl;intro y;refine bf o λh g i=>?_;obtain ⟨p,d⟩:=h;subst g;obtain ⟨a,C,f,b,n,x,w,t,j,u,m⟩:=S.K.G r _ _ i q;obtain rfl:=(x:d=ah a);exact ⟨p,a,C,f,b,n,af,i,w,j,⟨t,af,af,j⟩,u,m⟩
theorem yt (O:oZ c)(h:p9 a x σ λv=>Q v σ)(S:c.S ρ e σ s)(l:c.V s.c ρ a j)(H:n4 c e s ρ Q QC) :
  bc c.M A (getAttr j (cN x) i) QC EC s:=by
  unfold p9 at h;apply gl;intro J;refine U6 h λr k L v d y m t q=>?_;subst d;obtain ⟨p,N,C,B,M,n,rfl,F,w,G,I,z,D⟩:=Cx.S.Cy S y l;have b:=O.b _ _ w;have g:=z.adK x;rw [m] at g;refine bf g λu o f=>?_;exact get_value (O.K.keeps S.E) I (Oq b.a).1 (findObj_own b.b (b.d x) af o) (IP t f) (H.zc S f q (bh _))
theorem sf (O:oZ c)(h:lO a x y σ X)(S:c.S ρ e σ s)(ra:c.V s.c ρ a Z)(ry:c.V s.c ρ y m)(H:OkU c e s ρ X UC) :
  bc c.M A (setAttr Z (cN x) m) UC EC s:=by
  unfold lO at h;apply gl;intro g9;refine IQ h λr k fs M h1 q=>?_;subst M;obtain ⟨p,i,C,P,j,n,rfl,z,W,J,I,Y,T⟩:=Cx.S.Cy S h1 ra;have w:=O.b _ _ W;have N:=O.K.keeps S.E;have ht:takerIn c.K C (cN x)=ah aq:=by unfold takerIn;refine aA (w.d x) ?_;rfl
  refine set_plain N I w.g (osa_open N I w.f ht λb=>?_);apply jI;intro q9;refine bf (any_some w.b) λcd hc G=>?_;generalize V:Obj.putName (cN x) (m8 c.w.params (cN x)) (.str (cN x) (s.D+1)) m=g;have u:g (J2 j n)=J2 (putL (cN x) (m8 c.w.params (cN x)) (.str (cN x) (s.D+1)) m j) (putN (cN x) j n):=dw V (putName_dict ..);have d:(s.c.update i g).f i=ah (J2 (putL (cN x) (m8 c.w.params (cN x)) (.str (cN x) (s.D+1)) m j) (putN (cN x) j n)):=by
   exact aA (lI g J (u▸af)) (aA u af)
  have f:i∈zj (p,ah i):=K8 af;have D:p≠i:=by
   intro q;exact (eC.g (S.K.K r _ z)).1 (dw q (a6.i af))
  have B:(s.c.update i g).f p=ah ⟨.t C,ah i,.plain,P⟩:=by
   refine aA (gQ _ _ (gJ D)) ?_;exact I.at_
  have l:=Y.put x (hsh:=m8 c.w.params (cN x)) (tk:=s.D+1) ry;have v:qo c.F wR ρ s.c ρ (s.c.update i g):=by
   apply gl;intro g9;refine bf (S.K.H (ky z f)) λoa F hi=>?_;exact qo.R (hX ..) ⟨_,d⟩ F hi (ky z f)
  have S2:=S.toSt.upd (o:=.b k (zL x y fs)) z f (hX ..) ⟨_,d⟩
   ⟨i,C,P,_,_,af,W,B,d,l.abG v.B (iV.g.d _),xQ T⟩
  have L:UC () {s with heap:=s.c.update i g,toks:=s.D+1+1}:=
   H _ ρ _ (fK af af af (ab (bh _) (bh _))) v ((S.l (ab (bh _) (bh _))).k S2.2) q
  refine aG (br (aG (aG (wpAny_loadPart I.at_ (aG (Looks.here (looks_clsIn N hc) ?_))))));refine aA G ?_;refine br (aG (br (aG ?_)));unfold nsSet;refine aG (aG (wpAny_askSetting (br (aG (wpAny_mkText (aG (wpAny_loadPart J ?_)))))))
  dsimp only
  have cc:(!j.N.any (·.key.isStr (cN x))&&j.N.any (·.refKey))=aw:=by
   rw [← wO (as:=j.N) (p:=(·.refKey))];rw [Y.N7,hH]
  rw [aRefKeyMayBeTheName_at];refine aA cc ?_;have t:(putL (cN x) (m8 c.w.params (cN x)) (.str (cN x) (s.D+1)) m j).a<=3:=by
   refine dw l.XZ (dw (ay (·.1)) ?_);exact Zv (xQ T)
  refine wpAny_updatePart J ?_;refine aA (show Obj.putName (cN x) (if (cN x).cps.isEmpty=ax then 0 else reduceHash ((rM c.H c.w).w.params.strHash (cN x).cps)) (.str (cN x) (s.D+1)) m=g from V) ?_
  refine aG (wpAny_lookBehind d (pastItsLine_dict (ab t (by refine aA qw ?_;decide))) ?_);exact br L
end
open PySem PySem.Calls PyProof.Rows PySem.SeqAt PySem.W
structure Nm where
 f:aB->aJ ft
 b:aB->aJ ft
 h:aB->aJ ft
 a:aB->aJ eH
 g:aB->bC
structure rq (c:Cx)(T:dt)(N:Nm)(mg mb:ft->aJ bz):Prop where
 g:c.z.Ns dv mg
 b:c.z.Ns j1 mb
 p:∀i x a,N.f i=ah x->T.b i=ah a->∃v,(mg x=ah v\/(mg x=aq/\mb x=ah v))/\
  ∀h ρ,(∀t y,c.N t=ah y->ρ.d t=ah y)->c.z.jC h->RV c.z h ρ a v
 l:∀k x,N.b k=ah x->T.a k=aq->∃a o fd,N.a k=ah a/\mg x=ah (.t a)/\c.z.f a=ah o/\o.U=.func fd
 q:∀k x i C,N.b k=ah x->T.a k=ah i->c.J i=ah C->∃a,N.a k=ah a/\xB c.K (.t C) x=ah (ah (.t a))/\
  TL c.K (.t a)=ah (.v "function")/\J1 c.K (.t a)=ax/\∀y,cN y≠x
 n:∀i x,N.h i=ah x->∃C,c.J i=ah C/\mg x=ah (.t C)/\makesIn c.K C=ax/\J1 c.K (.t C)=ax/\
  ∀k,T.c i=ah k->∃a,N.a k=ah a/\xB c.K (.t C) "__init__"=ah (ah (.t a))/\TL c.K (.t a)=ah (.v "function")
 j:∀b,mg (qM b)=aq/\mb (qM b)=ah (yr b)
 r:∀k,N.g k=ax->T.a k=aq
 m:mg "ValueError"=aq/\mb "ValueError"=ah (.v "ValueError")
structure zr (c:Cx)(d u:aB)(A:k8):Prop where
 h:A.frames=ah (c.f.j::c.O)
 b:A.handled=aq
 g:A.depth<=d
 f:A.units<=u
def pY (c:Cx)(C:fk)(i:aB->aJ eH)(d u:aB):Prop:=
 ∀k h g Q X,C k h g Q X->∃a,i k=ah a/\∀A e s ρ b R,zr c d u A->c.S ρ e g s->iM c.z s.c ρ h b->
  n4 c e s ρ Q (λv f=>R (.ok (.ret v)) f)->JI c e s ρ X (λx f=>R (.error x) f)->oF c.M A (.call (.t a) ⟨b,[]⟩) R s
def XW (c:Cx)(e:Ev)(s:bH)(ρ:iV)(Q:QV)(g:bC->bH->Prop):Prop:=
 ∀v f d a,iF s f->c.P ρ s.c d f.c->c.S d e a f->Q v a->∃b,v=.g b/\g b f
theorem tJ (h:v8 v A B):(v=.g ax/\A)\/(v=.g aw/\B):=by
 cases v with
 |g b=>cases b with
  |true=>exact .C ⟨af,h⟩
  |false=>exact .y ⟨af,h⟩
 |_=>exact h.e
def RN (c:Cx)(e:Ev)(s:bH)(ρ:iV)(Q:ao AV->a8->Prop)(h:ao bz->bH->Prop):Prop:=
 ∀f d a g b,iF s d->c.P ρ s.c a d.c->c.S a e b d->iM c.z d.c a g f->Q g b->h f d
section
variable {c:Cx}{e:Ev}{s s₁:bH}{ρ ρ₁:iV}{X:QX}{EC:bz->bH->Prop}
theorem XW.Oi (H:XW c e s ρ Q i)(g:iF s s₁)(P:c.P ρ s.c ρ₁ s₁.c):XW c e s₁ ρ₁ Q i:=
 λv f b a d j h q=>H v f b a (g.hJ d) (P.A j) h q
theorem XW.Ys (H:XW c e s ρ Q g)(f:iF s s')(P:c.P ρ s.c a s'.c)(S:c.S a e σ s')(q:Q (.g b) σ):g b s':=by
 refine bf (H _ s' a σ f P S q) λh d q=>?_;injection d with d;subst d;exact q
theorem XW.now (H:XW c e s ρ Q d)(S:c.S ρ e σ s)(q:Q (.g b) σ)(a:s.D<=tk):d b {s with toks:=tk}:=H.Ys (fK af af af a) qo.G (S.l a) q
theorem RN.pre (H:RN c e s ρ Q j)(h:iF s s₁)(P:c.P ρ s.c ρ₁ s₁.c):RN c e s₁ ρ₁ Q j:=
 λv g d a b f k i r q=>H v g d a b (h.hJ f) (P.A k) i r q
end
section
variable (c:Cx)(T:dt)(C:fk)(d u:aB)
def hM (f:E)(x:fU):Prop:=∀A e a s ρ Q X b EC,zr c d u A->ey T C f e a Q X->c.S ρ e a s->n4 c e s ρ Q b->JI c e s ρ X EC->bc c.M A (ji x c.f.j) b EC s
def zT (f:E)(x:fU):Prop:=∀A e a s ρ Q X b EC,zr c d u A->ey T C f e a Q X->c.S ρ e a s->XW c e s ρ Q b->JI c e s ρ X EC->bc c.M A (TJ x c.f.j (ji x c.f.j)) b EC s
def w6 (f:Es)(xs:ao fU):Prop:=∀A p e a s ρ Q X b EC,zr c d u A->lQ T C f e a Q X->c.S ρ e a s->RN c e s ρ Q b->JI c e s ρ X EC->bc c.M A (vP (iY p (eB xs c.f.j))) b EC s
def RZ (f:Es)(xs:ao fU):Prop:=∀A e a s ρ Q X b EC,zr c d u A->Pp T C f e a Q X->c.S ρ e a s->XW c e s ρ Q b->JI c e s ρ X EC->bc c.M A (allTrue .And xs c.f.j) b EC s
def RX (f:Es)(xs:ao fU):Prop:=∀A e a s ρ Q X b EC,zr c d u A->Pm T C f e a Q X->c.S ρ e a s->XW c e s ρ Q b->JI c e s ρ X EC->bc c.M A (allTrue .Or xs c.f.j) b EC s
def R0 (f:Es)(xs:ao fU):Prop:=∀A p e a s ρ Q X b EC,zr c d u A->Pp T C f e a Q X->c.S ρ e a s->n4 c e s ρ Q b->JI c e s ρ X EC->bc c.M A (boolOp p .And (evalEach xs c.f.j)) b EC s
def RY (f:Es)(xs:ao fU):Prop:=∀A p e a s ρ Q X b EC,zr c d u A->Pm T C f e a Q X->c.S ρ e a s->n4 c e s ρ Q b->JI c e s ρ X EC->bc c.M A (boolOp p .Or (evalEach xs c.f.j)) b EC s
def N9 (j:Eo)(x:aJ fU):Prop:=∀A e h s ρ Q X (i:bz->bH->Prop) EC,zr c d u A->U9 T C j e h Q X->c.S ρ e h s->
 (∀v g b a f,iF s g->c.P ρ s.c b g.c->c.S b e f g->yA g.c b c.z a v->Q a f->i v g)->JI c e s ρ X EC->bc c.M A (nk (zx x c.f.j)) i EC s
end
section
variable {c:Cx}{T:dt}{C:fk}{d u:aB}
theorem Oy (h:hM c T C d u n x)(t:∀env f,TJ x env f=(do let v ← f;m4 x.x;hO [v] (TG v))):zT c T C d u n x:=by
 intro A e k s ρ Q X B EC w o S H z;rw [t];refine aG (h A e k s ρ _ X _ EC w o S ?_ z);intro v l i a g p P y r q;refine bf (H a l i g p P y q) λb j m=>?_;subst j;obtain rfl:=(r:v=.bool b);exact aG (dh (b9 (dZ m)))
theorem O7:hM c T C d u .y (.H .s k p):=λA e a s ρ Q X f EC b h S H g=>by
 rw [xc];exact br (H.mz S Bg h)
theorem Pe:hM c T C d u (.A b) (.H (.bool b) k p):=λA e a s ρ Q X g EC f h S H i=>by
 rw [xc];exact br (H.mz S jY h)
theorem Vf:hM c T C d u (.d i) (.H (.O i) k p):=λA e a s ρ Q X f EC b h S H g=>
 wpAny_Constant_int (H.zc S gz h (bh _))
theorem Va (b:y=dq x)(a:x.a<=gL):hM c T C d u (.h x) (.H (.str y) k p):=λA e f s ρ Q X i EC g h S H j=>by
 subst b;exact J3 (H.Tz S a h)
theorem acK (V:gp c.f c.B)(b:c.B[i]?=ah x):hM c T C d u (.v i) (.r x p):=λA e g s ρ Q X k EC j h S H l=>by
 refine bf (E0 h) λa f q=>?_;exact k0 (Dc V S.toSt b f λv r=>H.mz S r q) (V.d x (eQ b))
theorem pF (S:c.S ρ e σ s)
  (V:gp c.f c.B) (d:c.f.j.Q x=ah .A/\(x==("__debug__" : ft))=aw) (f:c.z.Ns dv b) (j:c.z.Ns j1 g) (a:b x=ah v\/(b x=aq/\g x=ah v)) (h:k v s) :
  bc c.M A (ji (.r x p) c.f.j) k EC s:=by
 refine nt V.a d.1 ?_ d.2;rcases a with a|⟨i,a⟩
 ·exact loadGlobal_global (f.keeps S.E) a h
 ·exact xD (f.keeps S.E) i (j.keeps S.E) a h
theorem acL (O:rq c T N m n) (V:gp c.f c.B) (f:N.f i=ah x) (j:c.f.j.Q x=ah .A/\(x==("__debug__" : ft))=aw) :
  hM c T C d u (.g i) (.r x p):=λA e l s ρ Q X r EC o h S H t=>by
 refine bf (hR h) λa k q=>?_;refine bf (O.p i x a f k) λv g b=>?_;exact pF S V j O.g O.b g (H.mz S (b s.c ρ S.i S.E) q)
theorem Vi (J:hM c T C d u a l)(I:hM c T C d u b r):hM c T C d u (.n G a b) (.BinOp l (xS G) r p):=by
 intro A e B s ρ Q X N EC w h S H z;refine wpAny_BinOp (J A e B s ρ _ X _ EC w h S ?_ z);intro M s₁ ρ₁ y g v P n F k;refine I A e g s₁ ρ₁ _ X _ EC w k n ?_ (z.tj v P);intro L t q x o i f m D j;exact I5 j m (f.s F) D ((H.qg v P).qg i f)
theorem Vd (o:hM c T C d u a x):hM c T C d u (.M a) (.UnaryOp .USub x p):=by
 intro A e l s ρ Q X w EC r h S H t;rw [arm_eval_UnaryOp];refine aG (o A e l s ρ _ X _ EC r h S ?_ t);intro v s₁ ρ₁ k g n P f m b;refine bf (ye b) λi j q=>?_;subst j;exact aG (dh (b9 (IE f m q (H.qg n P))))
theorem TR (m:zT c T C d u a x):zT c T C d u (.G a) (.UnaryOp .Not x p):=by
 intro A e i s ρ Q X r EC n h S H t;show bc c.M A (do return !(← TJ x c.f.j (ji x c.f.j))) r EC s;refine aG (m A e i s ρ _ X _ EC n h S ?_ t);intro v w j g l P o q;refine bf (rx q) λb f q=>?_;subst f;have k:=H.Ys l P o q;exact bQ b af (br k)
theorem Vb (r:hM c T C d u a x):hM c T C d u (.G a) (.UnaryOp .Not x p):=by
 intro A e l s ρ Q X w EC t h S H v;rw [arm_eval_UnaryOp];refine aG (r A e l s ρ _ X _ EC t h S ?_ v);intro m s₁ ρ₁ k i o P g n f;refine bf (rx f) λb j q=>?_;subst j;obtain rfl:=(n:m=.bool b);refine aG (dh (b9 ?_));show bc c.M A (hO [tm b] (do return tm (!(← TG (tm b))))) _ _ _;exact b9 (aG (dZ (br ((H.qg o P).mz g jY q))))
theorem Vh (J:u+100<uO)(O:oZ c)(V:hM c T C d u a l)(N:hM c T C d u b r)(M:qA (kU x) r=aw):hM c T C d u (.q x a b) (.j4 l [kU x] [r] p):=by
 intro A e F s ρ Q X QC EC v h S H D;refine wpAny_Compare1 (V A e F s ρ _ X _ EC v h S ?_ D) M;intro Y s₁ ρ₁ B i y P n I m;refine N A e i s₁ ρ₁ _ X _ EC v m n ?_ (D.tj y P);intro W w t z o j g f G k;exact mE (aQ (aj v.f _) J) O.a k f (g.s I) G λr q Z L=>((H.qg y P).qg j g).zc f jY q L
theorem TU (J:u+100<uO)(O:oZ c)(V:hM c T C d u a l)(N:hM c T C d u b r)(M:qA (kU x) r=aw):zT c T C d u (.q x a b) (.j4 l [kU x] [r] p):=by
 intro A e F s ρ Q X QT EC v h S H D;refine wpAny_isTrue_Compare1 (V A e F s ρ _ X _ EC v h S ?_ D) M;intro Y s₁ ρ₁ B i y P n I m;refine N A e i s₁ ρ₁ _ X _ EC v m n ?_ (D.tj y P);intro W w t z o j g f G k;exact mE (aQ (aj v.f _) J) O.a k f (g.s I) G λr q Z L=>(dZ (((H.Oi y P).Oi j g).now f q L))
end
open PySem PySem.Calls PyProof.Rows PySem.SeqAt PySem.W
section
variable {c:Cx}{T:dt}{C:fk}{d u:aB}
theorem Pa (hu:u+100<uO)(O:oZ c)(ha:hM c T C d u a l)(hb:hM c T C d u b r)(hk:hM c T C d u k r2)(hm:qA (kU o2) r2=aw) :
  hM c T C d u (.N o1 o2 a b k) (.j4 l [kU o1,kU o2] [r,r2] p):=by
 intro A e σ s ρ Q X QC Y J h S H W;refine Compare_chain (ha A e σ s ρ _ X _ Y J h S ?_ W) hm;intro va z x a₁ v V P L ra F;refine chain_link (hb A e v z x _ X _ Y J F L ?_ (W.tj V P));intro vb j w b₁ t f i g rb D;refine mE (aQ (aj J.f _) hu) O.a D g (i.s ra) rb λq hq Z I=>(dZ ?_);have o:=(H.qg V P).qg f i;cases q with
 |false=>
  exact o.zc g jY hq I
 |true=>
  have G:iF j {j with toks:=Z}:=fK af af af I;refine chain_last (hk A e t _ w _ X _ Y J hq (g.l I) ?_ (((W.tj V P).tj f i).tj G qo.G));intro vc s₃ N c₁ M y n m rc B;exact mE (aQ (aj J.f _) hu) O.a B m (n.s rb) rc λr q Z I=>((o.qg G qo.G).qg y n).zc m jY q I
theorem Oz (hu:u+100<uO)(O:oZ c)(ha:hM c T C d u a l)(hb:hM c T C d u b r)(hk:hM c T C d u k Y)(hm:qA (kU Z) Y=aw) :
  zT c T C d u (.N o1 Z a b k) (.j4 l [kU o1,kU Z] [r,Y] p):=by
 intro A e σ s ρ Q X QT V M h S H HX;refine isTrue_chain (ha A e σ s ρ _ X _ V M h S ?_ HX) hm;intro W m z a₁ x hs P N ra I;show bc c.M A (do
  let n ← hO [W] (ji r c.f.j)
  m4 p
  let D ← hO [W,n] (gx (kU o1) W n)
  JW [W,n] [D]
  if ← hO [D,n] (TG D) then testChain p n [kU Z] [ji Y c.f.j] else ij aw) QT V m
 refine aG (b9 (hb A e x m z _ X _ V M I N ?_ (HX.tj hs P)));intro vb j y b₁ w f i g rb G;refine aG (dh (aG (b9 ?_)));refine mE (aQ (aj M.f _) hu) O.a G g (i.s ra) rb λq hq tk L=>(aG (EU (aG (b9 (dZ ?_)))));have v:=(H.Oi hs P).Oi f i;have J:iF j {j with toks:=tk}:=fK af af af L;cases q with
 |false=>
  exact br (v.now g hq L)
 |true=>
  show bc c.M A (do
   let n ← hO [vb] (ji Y c.f.j)
   m4 p
   let D ← operate [vb,n] (gx (kU Z) vb n)
   hO [D] (TG D)) QT V _
  refine aG (b9 (hk A e w _ y _ X _ V M hq (g.l L) ?_ (((HX.tj hs P).tj f i).tj J qo.G)));intro vc s₃ ρ₃ c₁ σ₃ B t o rc F;refine aG (dh (aG (EV ?_)));exact mE (aQ (aj M.f _) hu) O.a F o (t.s rb) rc λr q tk L=>(b9 (dZ (((v.Oi J qo.G).Oi B t).now o q L)))
theorem Pn (n:zT c T C d u a x):RZ c T C d u (.a a .b) [x]:=by
 intro A e j s l Q X y t o h S H r;refine lW (n A e j s l _ X _ t o h S ?_ r);intro v w k i m P p q;refine bf (rx q) λb f q=>?_;subst f;have g:=H.Ys m P p q;cases b with
 |true=>exact bQ _ af (wpAny_allTrue_And_nil g)
 |false=>exact bQ _ af g
theorem Pl (n:zT c T C d u a x):RX c T C d u (.a a .b) [x]:=by
 intro A e j s l Q X y t o h S H r;refine wpAny_allTrue_Or_cons (n A e j s l _ X _ t o h S ?_ r);intro v w k i m P p q;refine bf (rx q) λb f q=>?_;subst f;have g:=H.Ys m P p q;cases b with
 |true=>exact bQ _ af g
 |false=>exact bQ _ af (wpAny_allTrue_Or_nil g)
theorem Lp (t:zT c T C d u a x)(r:RZ c T C d u (.a b as) (y::xs)):RZ c T C d u (.a a (.a b as)) (x::y::xs):=by
 intro A e n s o Q X w m j h S H l;refine lW (t A e n s o _ X _ m j h S ?_ l);intro v p i g f P k q;rcases tJ q with ⟨rfl,q⟩|⟨rfl,q⟩
 ·exact bQ _ af (r A e g p i Q X w m j q k (H.Oi f P) (l.tj f P))
 ·exact bQ _ af (H.Ys f P k q)
theorem Lm (t:zT c T C d u a x)(r:RX c T C d u (.a b as) (y::xs)):RX c T C d u (.a a (.a b as)) (x::y::xs):=by
 intro A e n s o Q X w m j h S H l;refine wpAny_allTrue_Or_cons (t A e n s o _ X _ m j h S ?_ l);intro v p i g f P k q;rcases tJ q with ⟨rfl,q⟩|⟨rfl,q⟩
 ·exact bQ _ af (H.Ys f P k q)
 ·exact bQ _ af (r A e g p i Q X w m j q k (H.Oi f P) (l.tj f P))
theorem Lq (n:hM c T C d u a x):R0 c T C d u (.a a .b) [x]:=by
 intro A p e j s k Q X B y o h S H w;refine n A e j s k _ X _ y o h S ?_ w;intro v l g z f m P t r q;refine bf (rx q) λb i q=>?_;subst i;exact H v l g _ f m P t r q
theorem Ln (n:hM c T C d u a x):RY c T C d u (.a a .b) [x]:=by
 intro A p e j s k Q X B y o h S H w;refine n A e j s k _ X _ y o h S ?_ w;intro v l g z f m P t r q;refine bf (rx q) λb i q=>?_;subst i;exact H v l g _ f m P t r q
theorem Jb (B:hM c T C d u a x)(z:R0 c T C d u (.a b as) (y::xs)):R0 c T C d u (.a a (.a b as)) (x::y::xs):=by
 intro A p e o s t Q X D n k h S H m;refine aG (B A e o s t _ X _ n k h S ?_ m);intro v w i F g f P l r q;rcases tJ q with ⟨rfl,q⟩|⟨rfl,q⟩
 ·have j:=(r:v=.bool ax);subst j;exact aG (dh (aG (b9 (dZ (z A p e g w i Q X D n k q l (H.qg f P) (m.tj f P))))))
 ·have j:=(r:v=.bool aw);subst j;exact aG (dh (aG (b9 (dZ (br ((H.qg f P).mz l jY q))))))
theorem Ja (B:hM c T C d u a x)(z:RY c T C d u (.a b as) (y::xs)):RY c T C d u (.a a (.a b as)) (x::y::xs):=by
 intro A p e o s t Q X D n k h S H m;refine aG (B A e o s t _ X _ n k h S ?_ m);intro v w i F g f P l r q;rcases tJ q with ⟨rfl,q⟩|⟨rfl,q⟩
 ·have j:=(r:v=.bool ax);subst j;exact aG (dh (aG (b9 (dZ (br ((H.qg f P).mz l jY q))))))
 ·have j:=(r:v=.bool aw);subst j;exact aG (dh (aG (b9 (dZ (z A p e g w i Q X D n k q l (H.qg f P) (m.tj f P))))))
theorem Ve (B:zT c T C d u q x)(F:hM c T C d u a y)(D:hM c T C d u b z):hM c T C d u (.L q a b) (.IfExp x y z p):=by
 intro A e v s w Q X t m k h S H l;refine aG (B A e v s w _ X _ m k h S ?_ l);intro r n g f j P o i;rcases tJ i with ⟨rfl,i⟩|⟨rfl,i⟩
 ·exact bQ _ af (F A e f n g Q X t m k i o (H.qg j P) (l.tj j P))
 ·exact bQ _ af (D A e f n g Q X t m k i o (H.qg j P) (l.tj j P))
theorem O5:w6 c T C d u .b []:=λA p e a s b Q X g j f h S H i=>
 qx (H [] s b [] a (iF.Ls s) qo.G S (af:_=[]) h)
theorem Ds (P:hM c T C d u a x)(O:w6 c T C d u as xs)(N:∀env rest,eB (x::rest) env=(aw,ji x env)::eB rest env):w6 c T C d u (.a a as) (x::xs):=by
 intro A p e J s L Q X V F G h S H I;rw [N];show bc c.M A (vP ((aw,ji x c.f.j)::iY p (eB xs c.f.j))) V F s;refine ki (P A e J s L _ X _ F G h S ?_ I);intro v q l z j b g D t y;refine O A p e j q l _ X _ F G y D ?_ (I.tj b g);intro M o k n i m f B r w;exact (H.pre b g) (v::M) o k (z::n) i m f B (jf _ _ af (f.s t) r) w
theorem U8:N9 c T C d u .f aq:=λA e a s b Q X g j f h S H i=>
 br (H .s s b aq a (iF.Ls s) qo.G S (af:_=_) h)
theorem O6 (l:hM c T C d u a x):N9 c T C d u (.c a) (ah x):=by
 intro A e g s i Q X w t m h S H p;refine l A e g s i _ X _ t m h S ?_ p;intro v j f n b k P o r q;exact H v j f (ah n) b k P o r q
theorem K4 (v:w6 c T C d u as xs):hM c T C d u (.p as) (.X xs k p):=by
 intro A e r s t Q X x q w h S H y;show bc c.M A (do m4 p;newTuple (← vP (iY p (eB xs c.f.j)))) x q s;refine aG (dh (aG (v A p e r s t _ X _ q w h S ?_ y)));intro z o m n l f i g b a;obtain ⟨j,a⟩:=qJ a;have j:=aa j;exact wpAny_newTuple ((H.qg f i).N0 g b j a) (dw b.yy (ab j fx))
theorem O9 (t:w6 c T C d u as xs):hM c T C d u (.z as) (.List xs p):=by
 intro A e q s r Q X w o v h S H x;show bc c.M A (do m4 p;JX (← vP (iY p (eB xs c.f.j)))) w o s;refine aG (dh (aG (t A p e q s r _ X _ o v h S ?_ x)));intro y n l m k f i g b a;obtain ⟨j,a⟩:=qJ a;have j:=aa j;exact wpAny_newList ((H.qg f i).N4 g b j a) (dw b.yy (ab j fx))
theorem Pf (O:oZ c)(V:hM c T C d u a x)(P:m6 x (cN y) c.f.j (ji x c.f.j)=ji x c.f.j):hM c T C d u (.D a y) (.E x (cN y) p):=by
 intro A e M s N Q X Y L W h S H Z;show bc c.M A (do
  let o ← m6 x (cN y) c.f.j (ji x c.f.j)
  m4 p.atName
  let r ← hO [o] (getAttr o (cN y) ax)
  letTemporaryGo x o r
  ij r) Y L s
 refine aA P ?_;refine aG (V A e M s N _ X _ L W h S ?_ Z);intro v I G J F i D z l n;refine aG (dh (aG (b9 (yt O n z l ?_))));intro w j f q b g B t k m;exact aG (uN (br ((H.qg i D) w j f q b g B t k m)))
theorem gip (h:s.S o "str"\/s.S o "list"\/s.S o "tuple"\/s.S o "dict") (q:Q aw s):bc c.M A (getitemInPython o) Q a s:=by
 rcases h with h|h|h|h
 ·exact dw (mB h.not_modules) (aG (n5 h F.slot_str_getitem.j (br q)))
 ·exact dw (mB h.not_modules) (aG (n5 h F.slot_list_getitem.j (br q)))
 ·refine aA (mB h.not_modules) ?_;exact aG (n5 h F.slot_tuple_getitem.j (br q))
 ·refine aA (mB h.not_modules) ?_;exact aG (n5 h F.slot_dict_getitem.j (br q))
theorem TP (h:qI a b σ R) (S:c.S ρ e σ s) (r:c.V s.c ρ a v):s.S v "str"\/s.S v "list"\/s.S v "tuple"\/s.S v "dict":=by
 cases a with
 |e z=>
  cases b with
  |d i=>
   refine bf (lk h) λl j _=>?_;refine By (Cx.S.kH S j r) λp d n f m u _=>?_;subst f;exact .y (.C (bQ _ u af))
  |c x=>
   refine bf (FG h) λB j _=>?_;refine bf r λf k m=>?_;obtain ⟨p,F⟩:=f;subst k;obtain ⟨D,o,⟨A,y,C,w,q,_⟩,_⟩:=S.K.G _ _ _ m j;exact .y (.y (.y (bQ _ w q.1)))
  |_=>exact h.e
 |f l=>
  obtain ⟨p,d,rfl,⟨n,g⟩,_⟩:=r;exact .y (.y (.C (bQ _ g af)))
 |j l=>
  obtain ⟨p,d,rfl,⟨n,g⟩,_⟩:=r;exact .y (.C (bQ _ (S.E _ _ g) af))
 |c l=>
  refine bf r λt f _=>?_;subst f;exact .C (EN _ _ _)
 |_=>exact h.e
theorem Vg (ha:hM c T C d u a x)(hb:hM c T C d u b y)(hy:∀o i,subscripted y aw o i=operate [o,i] (m5 o i)):hM c T C d u (.l a b) (.P x y p):=by
 intro A e σ s ρ Q X QC EC hA h S H HX;refine Subscript_ (ha A e σ s ρ _ X _ EC hA h S ?_ HX);intro v G t a₁ q f m P j M;refine hb A e q G t _ X _ EC hA M P ?_ (HX.tj f m);intro w Z Y b₁ W D g l J k;unfold subscriptTail;refine aG (gip (TP k l (g.s j)) ?_);apply aG;rw [hy];refine EV (Al k l (g.s j) J ?_);intro z F r N n B V O I L;exact aG (uN (br (((H.qg f m).qg D g) z F r N n B V O I L)))
theorem J8 {g k:aJ AV} (h:Fc a g k σ Q) (S:c.S ρ e σ s) (r:c.V s.c ρ a v):s.S v "str"\/s.S v "list"\/s.S v "tuple"\/s.S v "dict":=by
 cases a with
 |c l=>
  refine bf r λt b z=>?_;subst b;exact .C (EN _ _ _)
 |f l=>
  refine mO r λp d b f z=>?_;subst b;obtain ⟨n,i⟩:=f;exact .y (.y (.C (bQ _ i af)))
 |e o=>
  refine bf (lk h) λl m z=>?_;refine By (Cx.S.kH S m r) λp d n b q j z=>?_;subst b;exact .y (.C (bQ _ j af))
 |_=>exact h.e
theorem yA.acV (P:qo F own ρ h ρ' h')(r:yA h ρ base o v):yA h' ρ' base o v:=by
 cases o with
 |none=>exact r
 |some a=>exact P.s r
theorem nF {s:bH}(o)(h:s.S v T'):Shared.TypeIs {s with heap:=s.c.push o} v T':=by
 unfold Shared.TypeIs at h ⊢;cases v<;>first|exact h|(obtain ⟨ob,h1,h2⟩:=h;exact bQ ob (bE _ h1) h2)
theorem K5 {lo hi:Eo}(ha:hM c T C d u a x)(hl:N9 c T C d u lo yl)(hh:N9 c T C d u hi yh):hM c T C d u (.H a lo hi) (.P x (.Slice yl yh aq p') p):=by
 intro A e σ s ρ Q X QC EC hA h S H HX;refine Subscript_ (ha A e σ s ρ _ X _ EC hA h S ?_ HX);intro v m D a₁ w b j Y n O;show bc c.M A (do
  let l ← nk (zx yl c.f.j);let u ← hO [l] (nk (zx yh c.f.j));let s ← hO [l,u] (nk (zx aq c.f.j))
  JL "slice" [l,u,s]) _ EC m
 refine aG (hl A e w m D _ X _ EC hA O Y ?_ (HX.tj b j));intro vl J B l₂ t i g W rl N;refine aG (b9 (hh A e t J B _ X _ EC hA N W ?_ ((HX.tj b j).tj i g)));intro vh k ρ₃ l₃ σ₃ G f q rh o;refine aG (b9 (br ?_));refine jM ?_ (by show 3<=ph+2;refine aA qw ?_;decide);unfold subscriptTail;refine aG (gip ?_ ?_)
 ·exact (J8 o q (f.s (g.s n))).I (nF _) (Or.imp (nF _) (Or.imp (nF _) (nF _)))
 apply aG;show bc c.M A (operate [wC k.c.q.k,v] (m5 v (wC k.c.q.k))) _ EC _;refine EV (CZ o q (f.s (g.s n)) (rl.acV f) rh ?_);intro z I y P r F Z V L M;exact aG (uN (br ((((H.qg b j).qg i g).qg G f) z I y P r F Z V L M)))
theorem YL:∀a,1<=a.k->a.k<=3->(slicePick a aq (ah 0) (ah (-1))).u=(a.u.m 1).B
 |⟨[]⟩,h,_=>bZ h (by decide)
 |⟨[_]⟩,_,_=>by kernel_rfl
 |⟨[_,_]⟩,_,_=>by kernel_rfl
 |⟨[_,_,_]⟩,_,_=>by kernel_rfl
 |⟨_::_::_::_::_⟩,_,h=>bZ h (Nat.not_le.i (aF 4 _))
end
open PySem PySem.Calls PyProof.Rows PySem.SeqAt PySem.W
theorem mu {E:bz->bH->Prop}(b:a.any (·.1)=aw)
  (h:bc M A (vP a) (λvs s'=>Q ⟨vs,[]⟩ s') E s):bc M A (evalArgs f ax a []) Q E s:=by
 match a,b,h with
 |[],_,h=>
  unfold evalArgs;show bc M A (vP [] >>= _) Q E s;refine aG (mH h (λvs s' d=>?_) λz z x=>x);exact b9 (aG (br (aG (br (br d)))))
 |(ax,_)::_,b,_=>injection b
 |(aw,x)::c,_,h=>exact evalArgs_plain h
section
variable {c:Cx}{T:dt}{C:fk}{d u:aB}
theorem zr.i (a:zr c d u A):zr c (d+2) (u+10) A:=⟨a.h,a.b,ab a.g (ak ..),ab a.f (ak ..)⟩
abbrev Yu (c:Cx)(f:bz):Prop:=∀h,c.z.jC h->∃k,(k=Keeper.frame\/k=Keeper.machine\/k=Keeper.boundFrame)/\Looks c.M h (keeperOf f) k
theorem OM (h:hY T f v σ P):∃r c a,v=.e r/\σ[r]?=ah (.b c a)/\T.a f=ah c/\P r:=by
 unfold hY at h;exact h
theorem jo
  (o:zr c d u A) (n:Yu c f) (m:w6 c T C d u as xs)
  (a:∀env,(iY p (eB xs env)).any (·.1)=aw) (h:lQ T C as e σ Q X) (S:c.S ρ e σ s)
  (H:RN c e s ρ Q λvs s'=>bc c.M A (k6 f (first++vs)) t k s') (w:JI c e s ρ X k):bc c.M A (ER p f first (iY p (eB xs c.f.j)) []) t k s:=by
 refine CC (by rw [a];rfl) n (mu (a _) (m A p e σ s ρ Q X _ k o h S ?_ w));intro vs s' g j b i v l r q;exact ⟨l.E,H vs s' g j b i v l r q⟩
theorem tF (a:xy):Yu c (.z a):=λz z=>bQ .machine (.y (.C af)) (s8 af)
theorem IJ (a:xy):Yu c (.v a):=λz z=>bQ .machine (.y (.C af)) (s8 af)
theorem G2 (e:c.z.f a=ah o)(d:o.U=.func k):Yu c (.t a):=λh b=>
 (bQ .frame (.C af) ((Looks.ld (b a o e)).andThen (by
  obtain ⟨j,i,g,f⟩:=o;subst d;exact .now)))
theorem Ky (O:oZ c)(b:J1 c.K f):Yu c f:=λh a=>keeps_K b h (O.K.keeps a)
theorem OR (b:Bi):Yu c (yr b):=by
 cases b<;>first|exact tF _|exact IJ _
theorem lG (h:bc c.M A (ji (.r x p1) c.f.j) (λf s'=>bc c.M A (ER p f [] (iY p (eB xs c.f.j)) []) QC EC s') EC s) :
  bc c.M A (ji (.Z (.r x p1) xs [] p) c.f.j) QC EC s:=by
 show bc c.M A (ji (.r x p1) c.f.j >>= λf=>ER p f [] (iY p (eB xs c.f.j)) (backToKw p (Om [] c.f.j))) QC EC s;exact aG h
theorem Zd (O:rq c T N B D) (V:gp c.f c.B) (l:c.f.j.Q (qM b)=ah .A/\(qM b==("__debug__" : ft))=aw)
  (k:w6 c T C d u as xs) (a:∀env,(iY p (eB xs env)).any (·.1)=aw):hM c T C d u (.r b as) (.Z (.r (qM b) z) xs [] p):=by
 intro A e v s w Q X F G g h S H t;refine lG (pF S V l O.g O.b (.y (O.j b)) ?_);refine jo g (OR b) k a h S ?_ t;intro x y j m i f o n r q;exact Lk g.b q n r (H.qg f o)
theorem Pb (O:rq c T N mg mb) (V:gp c.f c.B) (P:pY c C N.a (d+2) (u+10)) (z:N.b k=ah x) (D:c.f.j.Q x=ah .A/\(x==("__debug__" : ft))=aw)
  (B:w6 c T C d u as xs) (f:∀env,(iY p (eB xs env)).any (·.1)=aw) (J:T.a k=aq):hM c T C d u (.u k as) (.Z (.r x Z) xs [] p):=by
 intro A e W s Y Q X QC EC n h S H v;refine By (O.l k x z J) λa o fd G F L I=>?_;refine lG (pF S V D O.g O.b (.C F) ?_);refine jo n (G2 L I) B f h S ?_ v;intro w y j m i g t M r q;apply gl;intro g9;refine bf (P k m i Q X q.2) λa' b l=>?_;have b:=G▸b;injection b with b;subst b;exact EM (l A e y j w _ n.i M r (H.qg g t) (v.tj g t))
theorem sj (hb:m6 o name c.f.j (ji o c.f.j)=ji o c.f.j)(hl:(apos.endLine==p.line))(hn:xs.a<30)
  (hplain:∀env,(iY p (eB xs env)).any (·.1)=aw)
  (h:bc c.M A (ji o c.f.j) (λov s'=>bc c.M A (getMethod ov name (do return (← importBound o c.f.j).l ax)) (λr s''=>bc c.M A (ER p r.1 r.2 (iY p (eB xs c.f.j)) []) QC EC s'') EC s') EC s) :
  bc c.M A (ji (.Z (.E o name apos) xs [] p) c.f.j) QC EC s:=by
 rw [arm_eval_Call];refine aA hb ?_;refine aG (mH h (λov s₁ h₁=>?_) λ_ _ e=>e);refine aG (dh ?_);have hform:methodCallForm (xs.a+([]:ao Keyword).a) (iY p (eB xs c.f.j)) (backToKw p (Om [] c.f.j)):=by
  unfold methodCallForm;have e1:(iY p (eB xs c.f.j)).oG (λx=>!x.1):=by
   rw [dz];intro x hx;have:=hplain c.f.j;rw [List.any_eq_false] at this
   simpa using this x hx
  refine aA e1 ?_;exact bF hn
 have hpos:methodCallPos ax o c.f.j apos p=ij p:=by unfold methodCallPos;simp [hl]
 unfold methodCall;refine aA hform ?_;refine aG (b9 ?_);show bc c.M A (getMethod ov name (do return (← importBound o c.f.j).l ax)) _ EC s₁;refine mH h₁ (λr s₂ h₂=>?_) λ_ _ e=>e;exact aG (uM hpos h₂)
theorem Zc (P:hM c T C d u a x)(O:m6 x (yq m) c.f.j (ji x c.f.j)=ji x c.f.j)(N:(l.endLine==p.line))(M:xs.a<30)
  (L:w6 c T C d u as xs) (b:∀env,(iY p (eB xs env)).any (·.1)=aw):hM c T C d u (.t a m as) (.Z (.E x (yq m) l) xs [] p):=by
 intro A e G s J Q X QC Y y h S H D;refine sj O N M b (P A e G s J _ X _ Y y h S ?_ D);intro v w o z n g k j i f;refine FE f j i λf=>(jo y (tF _) L b f j ?_ (D.tj g k));intro Z s' I V F t B W r q;exact Lg q W (B.s i) r ((H.qg g k).qg t B)
theorem O8 (O:oZ c)(NO:rq c T N mg mb)(CO:pY c C N.a (d+2) (u+10))(hx:N.b k=ah y)
  (ha:hM c T C d u a x) (hb:m6 x y c.f.j (ji x c.f.j)=ji x c.f.j) (hl:(B.endLine==p.line)) (hn:xs.a<30)
  (hs:w6 c T C d u as xs) (f:∀env,(iY p (eB xs env)).any (·.1)=aw):hM c T C d u (.w a k as) (.Z (.E x y B) xs [] p):=by
 intro A e σ s ρ Q X QC EC Y h S H HX;refine sj hb hl hn f (ha A e σ s ρ _ X _ EC Y h S ?_ HX);intro v s₁ G a₁ D b m l o g;apply jI;intro q9;apply gl;intro g9;obtain ⟨r,i,fs,rfl,hr,V,g⟩:=OM g;obtain ⟨q,dx,CA,sl,es,n,rfl,hp,hC,hd,I,fr,nd⟩:=Cx.S.Cy l hr o;have ok:=O.b _ _ hC;refine K3 (NO.q k y i CA hx V hC) λfa P w M t W=>?_;refine method_fn (O.K.keeps l.E) I (Oq ok.a).1 (Oq ok.a).2 w M ?_ ?_
 ·show (lookIn y (J2 es n)).d _=_;rw [lookIn_dict];refine aA (fr.abF W) ?_;rfl
 ·refine jo Y (Ky O t) hs f g l ?_ (HX.tj b m);intro vs s' J Z F z P' S' rr q';apply gl;intro g9;refine bf (CO k (.e r::Z) F Q X q') λa' j L=>?_;have j:=P▸j;injection j with j;subst j;exact EM (L A e s' J (.t q::vs) _ Y.i S' (jf _ _ af (P'.s o) rr) ((H.qg b m).qg z P') ((HX.tj b m).tj z P'))
theorem Vc (O:oZ c)(NO:rq c T N mg mb)(V:gp c.f c.B)(CO:pY c C N.a (d+2) (u+10))(hx:N.h i=ah x)
  (hk:c.f.j.Q x=ah .A/\(x==("__debug__" : ft))=aw) (hs:w6 c T C d u as xs) (F:∀env,(iY p (eB xs env)).any (·.1)=aw):hM c T C d u (.Q i as) (.Z (.r x p1) xs [] p):=by
 intro A e σ s ρ Q X QC EC hA h S H HX;refine K3 (NO.n i x hx) λw hC hg hmk L P=>?_;refine lG (pF S V hk NO.g NO.b (.C hg) ?_);refine jo hA (Ky O L) hs F h S ?_ HX;intro Y s' D as' J hs' P' G r q;apply gl;intro g9;refine l8 q λk hk' hcl q=>?_;refine l8 (P k hk') λfi hfi W hty=>?_;refine bf (CO k _ _ _ X q) λa' z run=>?_;have z:=hfi▸z;injection z with z;subst z;have X':=O.K.keeps G.E;apply EM;have hwt:(vS "type.__call__" ⟨.t w::Y,[]⟩).weight=1:=by
  unfold Code.weight;have h1:(vS "type.__call__" ⟨.t w::Y,[]⟩).isGuard=aw:=by
   show guardIds.contains "type.__call__"=aw
   decide +kernel
  exact dw h1 af
 have hun:(vS "type.__call__" ⟨.t w::Y,[]⟩).cUnits=1:=af
 have hA':zr c (d+2) (u+10) (A.under (.z "type.__call__" ⟨.t w::Y,[]⟩)):=by
  refine ⟨?_,hA.b,?_,?_⟩
  ·unfold Around.under;simp only [(show (vS "type.__call__" ⟨.t w::Y,[]⟩).envs=[] from af)]
   exact hA.h
  ·show A.depth+_<=_;exact dw hwt (aL hA.g (aa af))
  ·show A.units+_<=_;exact dw hun (aL hA.f (aa af))
 obtain ⟨f,g,dr,tk,os⟩:=s';refine make_core (makes_of X' hmk) (looks_findIn X' W) (λself=>bind_fn X' self hty) (.C af) ?_;have M:Kp f ((f.push rO).push (vR w f.q.k)):=λb o e=>bE _ (bE _ e);have hi2:((f.push rO).push (vR w f.q.k)).f (f.q.k+1)=ah (vR w f.q.k):=by
  have:=bY (o:=vR w f.q.k) (f.push rO) af
  rwa [nD] at this
 have hfr:∀a∈zj (f.q.k+1,ah f.q.k),f.f a=aq:=by
  intro a ha;rcases cz.g ha with rfl|ha
  ·exact mf (bh _)
  ·exact aA (a6.g ha) (kv _)
 have P2:c.P D f (D.f (f.q.k+1,ah f.q.k)) ((f.push rO).push (vR w f.q.k)):=.P (iV.g.f _ _) (tC hfr) M;have S2:c.S (D.f (f.q.k+1,ah f.q.k)) e (J++[.b i []]) ⟨(f.push rO).push (vR w f.q.k),g,dr,tk,os⟩:=⟨(G.toSt.DB P2 (oH G.E M) (G.K.N G.E M (.b i []) hfr (eC.i ⟨λq=>Nat.succ_ne_self _ (a6.g q),eC.i ⟨dm,jz⟩⟩) ⟨f.q.k,w,#[],[],0,af,hC,hi2,(bE _ (bY _ af)),af,jz⟩)),G.j,G.g,G.i⟩;have hs2:iF (⟨f,g,dr,tk,os⟩:bH) ⟨(f.push rO).push (vR w f.q.k),g,dr,tk,os⟩:=fK af af af (au _);have I:c.V ((f.push rO).push (vR w f.q.k)) (D.f (f.q.k+1,ah f.q.k)) (.e J.a) (.t (f.q.k+1)):=
  (bQ (f.q.k+1,ah f.q.k) af (dw G.K.D eJ))
 refine run _ e _ _ (.t (f.q.k+1)::Y) _ hA' S2 (jf _ _ af I (P2.M r)) ?_ ?_
 ·intro v y m a₂ l n t B r₂ j;obtain ⟨rfl,j⟩:=j;obtain rfl:=(r₂:v=.s);exact ⟨af,(H.qg hs' P') _ y m (.e J.a) l (hs2.hJ n) (P2.A t) B (t.s I) j⟩
 ·intro ex y m l n t B Z j;exact (HX.tj hs' P') ex y m l (hs2.hJ n) (P2.A t) B (Z.i P2.E) j
theorem K7:hM c T C d u .R (.Dict [] [] p):=by
 intro A e a s b Q X g j f h S H i;exact wpAny_Dict_empty (H _ _ (b.f (s.c.q.k,aq)) (.e a.a) (a++[MO.d []]) (fK af af af (au _)) (qo.Q _) ⟨S.toSt.Sv _ (.d []) ⟨af,[],Heap.DictOf.new _,af,bG _⟩,S.j,S.g,S.i⟩ (bQ (s.c.q.k,aq) af (dw S.K.D eJ)) h)
end
open PySem PySem.Calls PyProof.Rows PySem.SeqAt PySem.W
section
variable {c:Cx}{T:dt}{C:fk}{d u:aB}{e:Ev}{s:bH}{ρ:iV}{σ:a8}{Q:QV}{X:QX}{QC EC:bz->bH->Prop}{A:k8}
theorem pD {h:eI}{C:eH}(e:h.Ns C m)(g:h.f C=ah o):¬ uK o:=λc=>by
 refine IQ e λi k l d f z=>?_;obtain rfl:=aK (d.h.b g);rcases c with ⟨_,b,j,q⟩|⟨_,a,q⟩<;>rw [f] at q<;>injection q
theorem xZ {C:eH}(b:IsL h C a n)(c:h.f C=ah o):¬ uK o:=by
 obtain rfl:=aK ((b:h.f C=_).h.b c);exact (xV af).imm
theorem Sg {i g:bz}{env:Ob}{R:Result->bH->Prop}(I:aB->bH->Prop)
  (a:let z:Ob:=env
   let Z:Result->bH->Prop:=R
   ∀(E:bz->bH->Prop) n s,I n s->bc c.M A (pyNext i) (λr s₁=>match r with
    |none=>Z (.ok .next) s₁
    |some v=>bc c.M A (CN target i v) (λy f=>bc c.M A (sA target z v) (λy e=>bc c.M A (ji j z) (λx d=>bc c.M A (k6 (.z "list.append") [g,x]) (λy b=>∃m,m<n/\I m b) E d) E e) E f) E s₁) E s)
  (n) (h:I n s):oF c.M A (.compLoop (.M j [⟨target,k,[],0⟩] scope pos) 0 i g env) R s:=kcp_loop I (a _) n h
structure CmB (c:Cx)(ρ:iV)(n:aB)(St':aB->eI->Prop)(ys:ao AV)(C D:eH)(s₁:bH)(k:aB)(s':bH)(h':eI)(tk i:aB)(items:rU bz)(m':ft->aJ bz):Prop where
 a:s'={s₁ with heap:=h',toks:=tk}
 f:i<=n
 g:k=n+1-i
 h:St' i h'
 j:h'.Ns C m'
 l:N5 h' D items
 m:iM c.z h' ρ (ys.K i) items.u
 p:∀b o,s₁.c.f b=ah o->h'.f b=ah o
 q:s₁.D<=tk
def CmI (c:Cx)(ρ:iV)(n:aB)(b:aB->eI->Prop)(ys:ao AV)(C D:eH)(s₁:bH)(k:aB)(s':bH):Prop:=
 ∃f d i a e,CmB c ρ n b ys C D s₁ k s' f d i a e
theorem Ao {s₁ d:bH}
  (W:KTurns c.H c.w A target I fp wr n P Md St') (hself:∀i s (Q:bz->bH->Prop) (E:bz->bH->Prop),St' i s.c->Q (.t I) s->bc c.M A (pyIter (.t I)) Q E s) (hny:n=ys.a) (hz:ys.a<=gL) (hcell:∀y∈scope.n,y.2≠.cell) (hkind:scope.mC=.L)
  (hs₂:d={s₁ with heap:=d.c,toks:=l}) (htk:s₁.D<=l) (hst:St' 0 d.c) (hfp:∀b∈fp,b<d.c.q.k)
  (G:∀b o,s₁.c.f b=ah o->b∉wr/\d.c.f b=ah o) (hwi:∀i h,St' i h->∀b∈wr,∀o,h.f b=ah o->¬ uK o)
  (hstep:∀i v h tk C (m:ft->aJ bz) (QE:bz->bH->Prop) (EE:bz->bH->Prop),i<n->P i v h->(∀b o,s₁.c.f b=ah o->h.f b=ah o)->h.Ns C m->s₁.c.f C=aq->
   (∀y O tk',(∃m',O.Ns C m')->(∀b o,b≠C->h.f b=ah o->O.f b=ah o)->(∀a,ys[i]?=ah a->RV c.z O ρ a y)->QE y {s₁ with heap:=O,toks:=tk'})->
   bc c.M A (sA target (zy scope cl C c.f.j) v) (λ_ d=>bc c.M A (ji elt (zy scope cl C c.f.j)) QE EE d) EE {s₁ with heap:=h,toks:=tk})
  (hQ:∀D O tk f,s₁.c.f D=aq->(∀b o,s₁.c.f b=ah o->O.f b=ah o)->N5 O D f->iM c.z O ρ ys f.u->s₁.D<=tk->QC (.t D) {s₁ with heap:=O,toks:=tk}) :
  bc c.M A (JX []) (λacc w=>bc c.M A (newFunctionEnv scope c.f.j.globals cl [] c.f.j.qual aq .s (ah c.f.j)) (λcenv s₄=>
   oF c.M A (.compStart (.M elt [⟨target,iter,[],0⟩] scope pos) 0 (.t I) acc {cenv with scope:=relabel scope c.f.j}) (compPost c.M A EC aq QC acc cenv.lC) s₄) EC w) EC d:=by
 refine jM (wpAny_newFunctionEnv hcell (λ_ h=>bZ h dm) (λB t j=>?_) hkind)
 dsimp only at t j ⊢
 generalize hH2:d.c.push {cls:=.v "list",dict:=aq,data:=.seq ([]:ao bz).N}=H2 at t j ⊢
 let aC:eH:=H2.q.k;let T:eH:=d.c.q.k;have hC:aC=T+1:=by show H2.q.k=_;refine dw hH2 ?_;rw [nD]
 have hDC:T≠aC:=aA hC (b5 (cA _));have below:∀b,b<T->b≠aC/\b≠T:=λb hb=>⟨by refine aA hC ?_;exact b5 (bb hb),b5 hb⟩;have hDf:T∉fp:=λhm=>kj _ (hfp _ hm);have hCf:aC∉fp:=λhm=>by have:=hfp _ hm;exact kj _ (Nat.lt_of_succ_lt (hC▸this))
 have hDw:T∉wr:=λhm=>hDf (W.sub _ hm);have hCw:aC∉wr:=λhm=>hCf (W.sub _ hm);have old:∀b o,d.c.f b=ah o->B.f b=ah o:=λb o e=>j.extBut b o (below b (dU e)).1 (bE _ (dw hH2 (bE _ e)));have Z:=W.frame _ _ _ hst λb _ o e=>old b o e;have fresh:∀a,T<=a->s₁.c.f a=aq:=λa ha=>by
  cases e:s₁.c.f a with
  |none=>rfl
  |some o'=>exact bZ (dU (G a o' e).2) (iZ.i ha)
 have hD1:=fresh _ (au _);have hC1:s₁.c.f aC=aq:=fresh _ (aA hC (bh _));have loop:∀w:bH,w={s₁ with heap:=B,toks:=d.D+([]:ao (ft×bz)).a}->
   oF c.M A (.compLoop (.M elt [⟨target,iter,[],0⟩] scope pos) 0 (.t I) (.t T) (zy scope cl aC c.f.j))
    (compPost c.M A EC aq QC (.t T) aC) w:=by
  rintro w rfl;let I₀:=CmI c ρ n St' ys aC T s₁;refine Sg I₀ ?_ (n+1)
   ⟨B,_,0,#[],_,af,bG _,af,Z,t,⟨0,j.extBut _ _ hDC (bE _ (dw hH2 (bY _ af)))⟩,af,λb o e=>old b o (G b o e).2,by refine aA hs₂ ?_;simpa using htk⟩
  intro z₀ R₀ E₀;rintro k s' ⟨O,tk,i,f,m',rfl,hi,rfl,hst',hn',N,rs',hk',htk'⟩;by_cases L:i<n
  ·refine fT htk' (W.item i _ _ _ L hst' λv h₂ l hMd g hn2=>?_);refine W.go i v _ _ _ hMd λY hP hst₃ hk₃=>?_;have p:∀b o,b∉wr->O.f b=ah o->Y.f b=ah o:=λb o hb e=>hk₃ b o hb (g b o hb e);refine mH (Ie hn2 (hstep i v Y l aC m' (λy s'=>s₁.D<=s'.D->_) _ L hP (λb o e=>p b o (G b o e).1 (hk' b o e)) (hn'.at' λo e=>p _ o hCw e) hC1 ?_)) (λ_ s2 x=>fT x.1 (mH x.2 (λ_ _ z=>z) (λ_ _ z _=>z))) (λ_ _ z=>z.2);intro y X tk₄ J M hy htk₄;apply gl;intro g9;obtain ⟨m₄,J⟩:=J;obtain ⟨nn,N⟩:=N;have u:IsL X T f nn:=M _ _ hDC (p _ _ hDw N);refine pk wF (bQ _ u af) F.entry_list_append (F.args_list_append_2 _ _) (PySem.list_append T f nn y (rs'.ny▸ab (List.length_take_le ..) (ab (dK (hny▸L)) (ab hz fx)))) ⟨u,?_⟩;let V:=X.update T (n6 λxs=>xs.push y);have r:gr T X V:=hX ..;have up₅:∀b o,b∉wr->b≠aC->b≠T->O.f b=ah o->V.f b=ah o:=λb o h1 h2 h3 e=>(r.2 b h3).b (M b o h2 (p b o h1 e));have imm5:∀b o,O.f b=ah o->uK o->V.f b=ah o:=λb o eo im=>by
    refine up₅ b o (λhb=>hwi i O hst' b hb o eo im) (λq=>?_) (λq=>?_) eo
    ·exact pD hn' (dw q eo) im
    ·exact xZ N (dw q eo) im
   have imm4:∀b o,X.f b=ah o->uK o->V.f b=ah o:=λb o eo im=>by
    exact (r.2 b λq=>xZ u (dw q eo) im).b eo
   obtain ⟨yi,hyi⟩:∃y,ys[i]?=ah y:=⟨_,bV (dw hny L)⟩;refine ⟨n+1-(i+1),tn (bb L) (cA i),_,tk₄,i+1,f.push y,m₄,af,L,af,?_,J.sameBut r (gJ hDC),⟨_,(u.update (λxs=>xs.push y))⟩,?_,?_,?_⟩
   ·refine W.frame _ _ _ hst₃ λb hb o e=>(r.2 b λq=>hDf (dw q hb)).b (M b o (λq=>hCf (dw q hb)) e)
   ·refine aA List.take_add_one (aA hyi (aA Array.toList_push ?_));exact iM.pK (rs'.FP imm5 (iV.g.d _)) (.ZC (RV.yz imm4 (iV.g.d _) _ _ (hy _ hyi)))
   ·intro b o e;exact up₅ b o (G b o e).1 (λq=>ba hC1 (dw q e)) (λq=>ba hD1 (dw q e)) (hk' b o e)
   ·exact htk₄
  ·have hin:=rt hi (iZ.g L);subst hin;apply jI;intro q9;refine fT htk' (W.done _ _ _ hst' λh₂ l g hn2=>?_);refine bQ m' (hn'.at' λo e=>g _ o hCw e) (λY H=>?_);rw [hny,xd] at rs';obtain ⟨nn,N⟩:=N;refine hQ _ Y l f hD1 (λb o e=>(H.2 b λq=>ba hC1 (dw q e)).b (g b o (G b o e).1 (hk' b o e))) ⟨nn,(H.2 _ hDC).b (g _ _ hDw N)⟩ ?_ hn2;exact rs'.FP (λb o eo im=>(H.2 b λq=>pD hn' (dw q eo) im).b (g b o (λhb=>hwi i O hst' b hb o eo im) eo)) (iV.g.d _)
 have hs3:({d with heap:=B,toks:=d.D+([]:ao (ft×bz)).a}:bH)={s₁ with heap:=B,toks:=d.D+([]:ao (ft×bz)).a}:=by
  exact aA hs₂ af
 exact codeAny_compStart_list (loop _ hs3) (hself 0 _ _ _ Z (loop _ hs3))
end
open PySem PySem.Calls PyProof.Rows PySem.SeqAt PySem.W
theorem sJ {a:Type}{x n:ft}{k:a}{l:ao (ft×a)}(h:(x==n)):((n,k)::l).j x=ah k:=by refine aA iH ?_;rw [h]
theorem nG {a:Type}{x n:ft}{k:a}{l:ao (ft×a)}(h:(x==n)=aw):((n,k)::l).j x=l.j x:=by refine aA iH ?_;rw [h]
theorem rW {env:Ob}(e:env.scope.mC=.L){a:ao (ft×rQ)}{x:ft}(h:a.j x=ah .free)(f:env.Q x=ah .cell) :
  (a.d λ(n,k)=>if (k==gI&&env.scope.mC==.L&&env.Q n==ah .cell) then (n,rP) else (n,k)).j x=ah .cell:=by
 induction a with
 |nil=>exact ba af h
 |cons p r d=>
  show GQ x ((if (p.2==gI&&env.scope.mC==.L&&env.Q p.1==ah .cell)=ax then (p.1,rP) else (p.1,p.2))::_)=_
  have h:=h;cases b:x==p.1 with
  |true=>refine aA (c7 (by rw [aK ((sJ b).h.b h),e,← vX b,f];rfl)) ?_;rw [sJ b]
  |false=>
   have g:=d ((nG b).h.b h);by_cases c:(p.2==gI&&env.scope.mC==.L&&env.Q p.1==ah .cell)
   ·refine aA (c7 c) (aA (nG b) ?_);exact g
   ·refine aA (dA c) (aA (nG b) ?_);exact g
noncomputable def BA (cells:ao (ft×eH)):ao (ft×rQ)->ao (ft×eH)->ao (ft×eH)
 |[],a=>a
 |(n,k)::r,a=>if k==.free then BA cells r ((n,(cells.j n).l 0)::a) else BA cells r a
theorem vi (cells)(p)(r)(a):BA cells (p::r) a=if (p.2==.free)=ax then BA cells r ((p.1,(cells.j p.1).l 0)::a) else BA cells r a:=af
theorem yo (h:∀x∈scope.n,x.2=.free->∃a,env.cells.j x.1=ah a):closureFor scope env=ij (BA env.cells scope.n []):=by
 have f:∀l (d:ao (ft×eH)),(∀x∈l,x.2=.free->∃a,env.cells.j x.1=ah a)->
   (forIn l d (λx e=>(match x with
    |(b,c)=>if (c==gI)=ax then cellOf env b >>= λa=>ij (o9 ((b,a)::e)) else ij (o9 e):Sem (ForInStep (List (Str×Addr))))):Sem (ao (ft×eH)))=ij (BA env.cells l d):=by
  intro l
  induction l with
  |nil=>intro d _;rfl
  |cons x r j=>
   intro d i;obtain ⟨n,k⟩:=x;rw [List.forIn_cons];by_cases m:k=.free
   ·subst m;obtain ⟨a,p⟩:=i (n,.free) (dY ..) af;have t:cellOf env n=ij a:=by unfold cellOf;rw [p]
    simp only [kh,vO,t,pure_bind];refine aA (j _ λy g=>i y (de _ g)) ?_;rw [vi];refine aA (c7 (show ((n,gI).2==gI)=ax from af)) (aA (show (env.cells.j (n,gI).1)=ah a from p) ?_);rfl
   ·have o:=dR.i m;simp only [o,Bool.false_eq_true,Ol,pure_bind];refine aA (j _ λy g=>i y (de _ g)) ?_;rw [vi,dA (λq=>bJ (o.h.b q))]
 unfold closureFor;show (forIn scope.n [] (λx e=>(match x with
    |(b,c)=>if (c==gI)=ax then cellOf env b >>= λa=>ij (o9 ((b,a)::e)) else ij (o9 e):Sem (ForInStep (List (Str×Addr))))) >>= λs=>ij s)=_
 refine aA (f scope.n [] h) ?_;rfl
theorem IV (cells:ao (ft×eH))(k:cells.j x=ah a)(c)(d)(h:d.j x=ah a\/(c.j x=ah .free))(j:∀b,d.j x=ah b->b=a):(BA cells c d).j x=ah a:=by
 induction c generalizing d with
 |nil=>exact h.e id λh=>ba af h
 |cons p r i=>
  rw [vi];have h:=h;cases f:x==p.1 with
  |true=>
   rw [sJ f] at h;by_cases g:(p.2==gI)
   ·refine aA (c7 g) ?_;have e:((p.1,(cells.j p.1).l 0)::d).j x=ah a:=by refine aA (sJ f) (dw (vX f) (aA k ?_));rfl
    exact i _ (.C e) λb q=>aK (q.h.b e)
   ·refine aA (dA g) ?_;exact i d (h.I id λh=>(g (by refine aA (aK h) ?_;rfl)).e) j
  |false=>
   rw [nG f] at h;by_cases g:(p.2==gI)
   ·refine aA (c7 g) ?_;exact i _ (by refine aA (nG f) ?_;exact h) λb q=>j b ((nG f).h.b q)
   ·refine aA (dA g) ?_;exact i d h j
noncomputable def Bf (m:ft->aJ bz):ao ft->ao bz->ft->aJ bz
 |x::a,v::b=>Bf (λz=>if z=x then ah v else m z) a b
 |_,_=>m
theorem Fd (xs)(vs)(m:ft->aJ bz)(h:x∉xs):Bf m xs vs x=m x:=by
 induction xs generalizing vs m with
 |nil=>rfl
 |cons y b a=>
  cases vs with
  |nil=>rfl
  |cons v vs=>exact (a vs _ λq=>h (de _ q)).b (dA λ(q:x=y)=>h (dw q (dY ..)))
theorem Fe (xs)(vs)(m:ft->aJ bz)(j:aB)(a:xs.kl)(h:xs[j]?=ah x)(b:vs[j]?=ah v):Bf m xs vs x=ah v:=by
 induction xs generalizing vs m j with
 |nil=>exact ba eh h
 |cons y d e=>
  have a:=eC.g a;cases vs with
  |nil=>exact ba eh b
  |cons w c=>
   cases j with
   |zero=>
    obtain rfl:=aK h;obtain rfl:=aK b;exact (Fd d c _ a.1).b (c7 af)
   |succ j=>exact e c _ j a.2 h b
noncomputable def Oc (xs:ao (ft×Pos)):ao fU:=xs.d λp=>.r p.1 p.2
theorem gg (xs)(env):assignEach (Oc xs) env=xs.d λp=>(aw,sA (.r p.1 p.2) env):=by
 induction xs with
 |nil=>rfl
 |cons x r a=>
  show (aw,sA (.r x.1 x.2) env)::assignEach (Oc r) env=_;refine aA a ?_;rfl
section
variable {M:Model}{A:k8}{E:bz->bH->Prop}{env:Ob}
theorem BE (x:(env.scope.mC==.class||(env.scope.mC==.module&&env.lC != env.globals))=aw)(xs:ao (ft×Pos))(vs)(m:ft->aJ bz)(s)(j:xs.a=vs.a)
  (r:∀p∈xs,env.Q p.1=ah .F) (n:s.c.Ns env.lC m)
  (h:∀k tk,k.Ns env.lC (Bf m (xs.d (·.1)) vs)->(∀b o,b≠env.lC->s.c.f b=ah o->k.f b=ah o)->Q () {s with heap:=k,toks:=tk}) :
  bc M A (qC (xs.d λp=>sA (.r p.1 p.2) env) vs) Q E s:=by
 induction xs generalizing vs m s with
 |nil=>
  cases vs with
  |nil=>exact zF (h s.c s.D n λz z z e=>e)
  |cons _ _=>injection j
 |cons p xs u=>
  cases vs with
  |nil=>injection j
  |cons v vs=>
   refine pv (jN (mA (r p (dY ..)) n (λl f c=>?_) x));exact u vs _ _ (js j) (λq w=>r q (de _ w)) f λi a d g=>h i a d λb o t e=>g b o t ((c.2 b t).b e)
end
section
variable {c:Cx}{T:dt}{C:fk}{d u:aB}
theorem OG (h:oJ m j (a::r)=ah ys):∃vs y c,a=.f vs/\vs.a=m/\vs[j]?=ah y/\oJ m j r=ah c/\ys=y::c:=by
 cases a with
 |f vs=>
  have h:(match aM vs.a m,vs[j]? with
   |true,ah y=>(oJ m j r).d (y::·)
   |_,_=>aq)=ah ys:=h
  cases b:aM vs.a m with
  |false=>have h:=b▸h;exact ba af h
  |true=>
   cases d:vs[j]? with
   |none=>have h:=b▸d▸h;exact ba af h
   |some y=>
    cases e:oJ m j r with
    |none=>have h:=b▸d▸e▸h;exact ba af h
    |some c=>
     have h:=b▸d▸e▸h;exact UY vs y c af (aD b) d af ((aK h).h)
 |_=>exact ba af h
theorem IB (h:oJ m j l=ah ys):l.a=ys.a/\∀(i:aB) y,ys[i]?=ah y->∃vs:ao AV,l[i]?=ah (.f vs)/\vs.a=m/\vs[j]?=ah y:=by
 induction l generalizing ys with
 |nil=>obtain rfl:=aK h;exact ⟨af,λx x h=>ba eh h⟩
 |cons a r b=>
  refine Bx (OG h) λvs y n d f k g c=>?_;subst d;subst c;have b:=b g;refine ⟨aW ix b.1,λi z e=>?_⟩;cases i with
  |zero=>exact l4 vs af f (k.b e)
  |succ i=>exact b.2 i z e
theorem pE {h:eI} {I:eH} (d:h.f I=ah o) (e:o.cls=.v x) (i:x≠"tuple") (g:x≠"range"):∀b∈[I],∀o,h.f b=ah o->¬ uK o:=λb f j a c=>by
 obtain rfl:=a6.g f;obtain rfl:=aK (d.h.b a);rcases c with ⟨q,_⟩|⟨q,_⟩<;>rw [e] at q<;>cases q
 ·exact i af
 ·exact g af
theorem p8:∀i h,(Heap.IsTupleIter h I t i/\h.mD t a)->∀b∈[I],∀o,h.f b=ah o->¬ uK o:=by
 rintro i h ⟨⟨o,c,d,e⟩,_⟩;exact pE c d (by decide) (by decide)
theorem u7:∀i h,(Heap.IsListIter h I t i/\h.IsList t a)->∀b∈[I],∀o,h.f b=ah o->¬ uK o:=by
 rintro i h ⟨⟨o,c,d,e⟩,_⟩;exact pE c d (by decide) (by decide)
theorem KW {h:eI}{t:eH}(c:t<h.q.k)(d:o.isFreed=aw):∀b∈[h.q.k,t],b<(h.push o).q.k:=λb a=>by
 rcases cz.g a with a|a
 ·refine aA a ?_;exact dU (bY _ d)
 ·refine aA (a6.g a) ?_;exact aS c (by rw [nD];exact bh _)
theorem Fn {h:eI}(a):∀b o,h.f b=ah o->b∉[h.q.k]/\(h.push a).f b=ah o:=λb o e=>
 ⟨λc=>bZ (dU e) (dw (a6.g c) (kj _)),bE _ e⟩
theorem Vo {ρ:iV}{e:Ev}(S:c.S ρ e σ s)(j:e i=ah a)(g:c.B[i]?=ah y)(h:c.f.j.Q y=ah .cell){G:Prop}(k:∀v d,c.f.n.j y=ah d->s.c.IsCell d (ah v)->c.V s.c ρ a v->G):G:=by
 refine mO (S.ev i a j) λn v f b r=>?_;obtain rfl:=aK (g.h.b f);rcases b with ⟨q,_⟩|⟨_,d,m,l⟩
 ·injection aK (h.h.b q)
 ·exact k v d m l r
theorem FF (hsrc:hM c T C d u src L)(hfs:∀env x,iD L env x=ij x)
  (hm:xs.a=m) (hy:(xs.d (·.1))[j]?=ah y) (nd:(xs.d (·.1)).kl) (hdb:(y==("__debug__" : ft))=aw) (W:∀x∈scope.n,x.2≠.free) (Z:∀x∈scope.n,x.2≠.cell) (f:scope.mC=.L)
  (J:∀x∈scope.n,x.2=.F->scope.n.j x.1=ah .F) (N:∀p∈xs,scope.n.j p.1=ah .F) :
  hM c T C d u (.P m j src) (.M (.r y py) [⟨.X (Oc xs) k tp,L,[],0⟩] scope pos):=by
 intro A e σ s ρ Q X QC EC hA h S H HX;rw [eval_ListComp];refine wpAny_comprehension_free af (hfs _) (closureFor_none W) f J (hsrc A e σ s ρ _ X _ EC hA h S ?_ HX);intro v g O a₁ σ₁ P P₁ S₁ r₁ z;apply jI;intro q9;refine bf (Be z) λl I z=>?_;subst I;refine bf (hR z) λys hp q=>?_;obtain ⟨B,hget⟩:=IB hp;refine oh r₁ λt r I ht rs hz=>?_;subst I;have hl:=rs.ny;have M:t<g.c.q.k:=by obtain ⟨n,ho⟩:=ht;exact dU ho
 have hne:t≠g.c.q.k:=b5 M;have hT:g.c.mD t r:=ht.JP;apply pf hT;refine Ao (ρ:=O) (m7 (oC hA.b g.c.q.k t hne r) λi v s Q E st q=>CP st.1 q) (λi s Q E st q=>(oC hA.b g.c.q.k t hne r).self i s Q E st q) (dw hl B) (dw B hz) Z f af (au _)
  ⟨l4 _ (bY _ af) af af,hT.at λo e=>bE _ e⟩ ?_ ?_ p8 ?_ ?_
 ·exact KW M af
 ·exact Fn _
 ·intro i v h tk CA m' QE EE hi hP hk hn hC Y;obtain ⟨yi,hyi⟩:∃y,ys[i]?=ah y:=⟨_,bV (B▸hl▸hi)⟩;apply jI;intro q9;apply sE;intro s9;apply gl;intro g9;refine l8 (hget i _ hyi) λvs hlv hvm hvj=>?_;refine bf (rs.Px hlv) λv' hv' rv=>?_;rw [dI] at hv';have hvv:=aK (hP.h.b hv');subst hvv;refine oh rv λt' its I e91 rs' _=>?_;subst I;obtain ⟨n',ht'⟩:=e91;have hl':=rs'.ny;refine bf (rs'.Px hvj) λw hw rw'=>?_;refine xA hA.b ⟨_,hk _ _ ht',af,n',af⟩ (by rw [gg,ay,hm,← hvm,hl']) (by rw [gg];simp) λz G=>?_;rw [gg];refine aA gR ?_;apply sE;intro s9;refine BE (by simp [zy,relabel,f]) xs its.u m' _ (hm▸hvm▸hl'▸eG▸af) (λp hp=>nq (N p hp)) (hn.at' λo e=>G _ o (show CA≠h.q.k from b5 hn.lt) e) λh₂ tk₂ F V=>?_;refine k0 (fV (by show scope.mC=.L;exact f) (nq ?_) F (Fe _ _ _ j nd hy hw) ?_) hdb
  ·have hym:=eQ hy;simp only [iT] at hym;obtain ⟨p,hp,rfl⟩:=hym;exact N p hp
  ·have kk:∀b o,b≠CA->h.f b=ah o->h₂.f b=ah o:=λb o hb e=>V b o hb (G b o (b5 (dU e)) e);refine Y _ _ _ ⟨_,F⟩ kk λa ha=>?_;rw [hyi] at ha;injection ha with ha;subst ha;exact RV.yz (λb o eo im=>kk b o (λhq=>ba hC (dw hq eo)) (hk b o eo)) (iV.g.d _) _ _ rw'
 ·intro D h' tk items' hD hk hL rsD hn;exact (H.qg P P₁).GJ S₁ hk hD hL rsD (dw B hz) hn q
theorem Dt {cap:aB}{W:E}(V:gp c.f c.B)(hsrc:hM c T C d u W G)(hfs:∀env x,iD G env x=ij x)
  (J:c.B[cap]?=ah y) (hcc:c.f.j.Q y=ah .cell) (hdx:(x==("__debug__" : ft))=aw) (M:∀z∈scope.n,z.2=.free->∃a,c.f.n.j z.1=ah a) (O:∀z∈scope.n,z.2≠.cell) (g:scope.mC=.L)
  (F:∀z∈scope.n,z.2=.F->scope.n.j z.1=ah .F) (hx:scope.n.j x=ah .F) (hy:scope.n.j y=ah .free) :
  hM c T C d u (.K cap W) (.M (.X [.r x px',.r y py] k tp) [⟨.r x px,G,[],0⟩] scope pos):=by
 intro A e σ s ρ Q X QC EC hA h S H HX;rw [eval_ListComp];refine wpAny_comprehension_free af (hfs _) (yo M) g F (hsrc A e σ s ρ _ X _ EC hA h S ?_ HX);intro v m L a₁ σ₁ j P₁ B Y f;apply jI;intro q9;apply gl;intro g9;refine bf (Fp f) λr P f=>?_;subst P;refine bf (lk f) λl hr f=>?_;refine bf (E0 f) λa hea q=>?_;refine Bx (Cx.S.kH B hr Y) λt n nn P hp ho rs hz=>?_;subst P;refine Vo B hea J hcc λva ca hca hcv rva=>?_;have hl:=rs.ny;have I:=dU ho;have hne:=b5 I;have hT:=ho.isList;apply wpAny_pyIter_list hT;refine Ao (ρ:=L) (ys:=l.d λz=>.f [z,a]) (m7 (Ih hA.b m.c.q.k t hne n) λi v s Q E st q=>letGo_listiter st.1 q) (λi s Q E st q=>(Ih hA.b m.c.q.k t hne n).self i s Q E st q) (by rw [ay];exact hl.h) (by rw [ay];exact hz) O g af (au _)
  ⟨l4 _ (bY _ af) af af,hT.at λo e=>bE _ e⟩ ?_ ?_ u7 ?_ ?_
 ·exact KW I af
 ·exact Fn _
 ·intro i v h tk CA m' QE EE hi hP hk hn hC N;have hil:=hl▸hi;obtain ⟨li,hli⟩:∃y,l[i]?=ah y:=⟨_,bV hil⟩;apply sE;intro s9;refine bf (rs.Px hli) λv' hv' rv=>?_;rw [dI] at hv';have hvv:=aK (hP.h.b hv');subst hvv;have hkf:=g;refine jN (mA (nq hx) hn (λf w j=>?_) (by simp [zy,relabel,g]));have Z:∀b o,b≠CA->h.f b=ah o->f.f b=ah o:=λb o hb e=>(j.2 b hb).b e;have hcaC:ca≠CA:=by
   refine bf hcv λo p _=>?_;rintro rfl;have p:=hC▸p;injection p
  have hcv1:f.IsCell ca (ah va):=by
   refine bf hcv λo p hd=>?_;exact bQ o (Z _ _ hcaC (hk _ _ p)) hd
  show bc c.M A (do m4 tp;newTuple (← vP (iY tp (eB [.r x px',.r y py] (zy scope (BA c.f.j.cells scope.n []) CA c.f.j))))) QE EE _;apply sE;intro s9;refine aG (dh (aG ?_));refine ki (k0 (fV (v:=v) hkf (nq hx) w (by simp) ?_) hdx);refine ki (k0 (wpAny_loadName_cell hkf (rW V.a hy hcc) (IV c.f.j.cells hca scope.n [] (.y hy) (λ_ q=>nomatch q)) hcv1 ?_) (V.d y (eQ J)));refine qx (wpAny_newTuple ?_ (by show 2<=ph;refine aA qw ?_;decide));have kk:∀b o,b≠CA->h.f b=ah o->(f.push {cls:=.v "tuple",data:=.seq [v,va].N}).f b=ah o:=λb o hb e=>bE _ (Z b o hb e)
  refine N _ _ _ ⟨_,w.keeps λb o e=>bE _ e⟩ kk λa' ha'=>?_;rw [cS,hli] at ha';obtain rfl:=aK ha';have imm:∀b o,m.c.f b=ah o->uK o->(f.push {cls:=.v "tuple",data:=.seq [v,va].N}).f b=ah o:=λb o eo im=>kk b o (λhq=>ba hC (dw hq eo)) (hk b o eo)
  exact yg _ ([v,va].N) af ⟨0,bY _ af⟩ (jf _ _ af (RV.yz imm (iV.g.d _) _ _ rv) (.ZC (RV.yz imm (iV.g.d _) _ _ rva))) (aF 2 999998)
 ·intro D h' tk items' hD hk hL rsD hn;exact (H.qg j P₁).GJ B hk hD hL rsD (by rw [ay];exact hz) hn q
end
open PySem PySem.Calls PyProof.Rows PySem.SeqAt PySem.W
section
variable {c:Cx}{T:dt}{C:fk}{d u:aB}
theorem Ak {g:f->Sem e}{i:f->e->Code}{R:f->e->Result->bH->Prop}{E:bz->bH->Prop}(j:n<=s.D)(h:bc M A t (λa d=>bc M A (g a) (λb c=>oF M A (i a b) (λr s'=>n<=s'.D->R a b r s') c) E d) E s) :
  bc M A t (λa d=>bc M A (g a) (λb c=>oF M A (i a b) (R a b) c) E d) E s:=
 mH (Ie j h) (λw w x=>mH (Ie x.1 x.2) (λw w y=>codeAny_with_toks y.1 y.2) λw w z=>z.2) λw w z=>z.2
theorem blk
  (W:Walks c.H c.w A I fp wr n P St') (hsz:n<=ph) (hcell:∀y∈scope.n,y.2≠.cell) (hkind:scope.mC=.L) (hx:scope.n.j x=ah .F) (hst:St' 0 h₂) (hfp:∀b∈fp,b<h₂.q.k) (hold:∀b o,s₁.c.f b=ah o->b∉wr/\h₂.f b=ah o)
  (hq:QuietOn c.H c.w A c.f.j scope x ifs elt wr P p F {s₁ with heap:=h₂}) (S:c.S ρ e σ s₁) (H:n4 c e s₁ ρ Q QC)
  (hys:∀h' (vs items:ao bz),vs.a=n->(∀(j:aB) v,vs[j]?=ah v->P j v)->Paired F (vs.ke p) items->(∀b o,s₁.c.f b=ah o->h'.f b=ah o)->iM c.z h' ρ ys items) (hz:ys.a<=gL) (q:Q (.e σ.a) (σ++[.a ys])) :
  bc c.M A (JX []) (λacc s₃=>bc c.M A (newFunctionEnv scope c.f.j.globals [] [] c.f.j.qual aq .s (ah c.f.j)) (λcenv s₄=>
   oF c.M A (.compStart (.M elt [⟨.r x px,iter,ifs,0⟩] scope pos) 0 (.t I) acc {cenv with scope:=scope}) (λr s'=>∃m,s'.c.Ns cenv.lC m/\∀h',gr cenv.lC s'.c h'->
      match r with|.ok _=>QC acc {s' with heap:=h'}|.error x=>bc c.M A (passOn "comprehension.variables-let-go" x {cenv with scope:=scope}) QC EC {s' with heap:=h'}) s₄) EC s₃) EC {s₁ with heap:=h₂}:=by
 refine sE ?_;intro s9;refine Ak (n:=s₁.D) (au _) (comp_block_walk (RR:=λacc cenv r s'=>s₁.D<=s'.D->∃m,s'.c.Ns cenv.lC m/\∀h',gr cenv.lC s'.c h'->
  match r with|.ok _=>QC acc {s' with heap:=h'}|.error x=>bc c.M A (passOn "comprehension.variables-let-go" x cenv) QC EC {s' with heap:=h'}) W hsz p F hcell hkind hx hst hfp hq ?_)
 intro D C h' tk m' ys' vs hD hC hDC hn hl hpl hlen hP hF hk htk;refine bQ m' hn (λh'' hs''=>?_);have k:∀b o,s₁.c.f b=ah o->h''.f b=ah o:=λb o eo=>hs''.extBut b o (λq=>ba hC (q▸(hold b o eo).2)) (hk b o (hold b o eo).1 (hold b o eo).2);have hD1:s₁.c.f D=aq:=by
  cases z:s₁.c.f D with
  |none=>rfl
  |some o=>exact ba hD (hold D o z).2
 exact H.GJ S k hD1 (hpl.extBut hs''.extBut hDC) (hys h'' vs ys'.u hlen hP hF k) hz htk q
theorem IC {f:aU->aU}:∀{a:ao aU} {vs ys:ao bz},(∀(j:aB) v,vs[j]?=ah v->∃i t,a[j]?=ah i/\v=wD i t)->vs.a=a.a->Paired (λv y=>∀i t,v=wD i t->∃c,y=wD (f i) c) vs ys->iM base h ρ (a.d λi=>AV.d (f i)) ys:=by
 intro a
 induction a with
 |nil=>
  intro vs ys d b g;obtain rfl:=gE.g b;cases g;rfl
 |cons i a k=>
  intro vs ys d b g;cases vs with
  |nil=>injection b
  |cons v vs=>
   cases g with
   |cons m l=>
    refine l6 (d 0 v af) λp t o n=>?_;obtain rfl:=aK o;obtain ⟨c,rfl⟩:=m i t n;exact jf _ _ af ⟨c,af⟩ (k (λj v e=>d (j+1) v e) (js b) l)
theorem Walks.lt {St:aB->eI->Prop}(W:Walks prog w A I fp wr n P St):Walks prog w A I fp wr n (λi v=>P i v/\i<n) St:=
 ⟨W.sub,W.frame,λi s Q E hi st hQ=>W.item i s Q E hi st λv h' tk hP=>hQ v h' tk ⟨hP,hi⟩,W.done,W.self⟩
noncomputable def neE:bz->bC
 |.str x _=>!(x==("" : ft))
 |_=>aw
theorem OY:∀{ts:ao Tx} {vs ys:ao bz},p7 l=ah ts->iM base h ρ l vs->Paired (λv y=>y=v) (vs.ke neE) ys->iM base h ρ ((ts.ke λt=>!bT t []).d AV.c) ys:=by
 induction l with
 |nil=>
  intro ts vs ys e d b;obtain rfl:=aK e;obtain rfl:=(d:vs=[]);cases b;rfl
 |cons a l g=>
  intro ts vs ys e d b;refine mO (GU e) λx m c i f=>?_;subst c;subst f;obtain ⟨v,vs,rfl,r,d⟩:=d;refine bf r λt c j=>?_;subst c;rw [ef,(show neE (.str (dq x) t)=!bT x [] from aW not (xf x []))] at b;refine aA ef ?_;revert b;cases !bT x [] with
  |false=>exact λb=>g i d b
  |true=>
   intro b;cases b with
   |cons k b=>
    subst k;exact jf _ _ af (bQ t af j) (g i d b)
theorem IS (hsrc:hM c T C d u src iter) (hfs:∀env x,iD iter env x=ij x) (hdx:(x==("__debug__" : ft))=aw)
  (hfree:∀z∈scope.n,z.2≠.free) (hcell:∀z∈scope.n,z.2≠.cell) (hkind:scope.mC=.L) (hnames:∀z∈scope.n,z.2=.F->scope.n.j z.1=ah .F) (hx:scope.n.j x=ah .F) :
  hM c T C d u (.O src) (.M (.r x p1) [⟨.r x px,iter,[.j4 (.r x p2) [.NotEq] [.H (.str ("" : ft)) k p3] pe],0⟩] scope pos):=by
 intro A e σ s ρ Q X QC EC hA h S H HX;refine wpAny_ListComp hfree hkind hnames (hsrc A e σ s ρ _ X _ EC hA h S ?_ HX) (hfs _);intro v s₁ ρ₁ a₁ σ₁ hs₁ P₁ S₁ r₁ h₁;refine gl ?_;intro g9;refine bf (Fp h₁) λr e90 h₁=>?_;subst e90;refine bf (lk h₁) λl hr h₁=>?_;refine bf (hR h₁) λts he q=>?_;refine Bx (Cx.S.kH S₁ hr r₁) λt items nn e90 hp ho rs hz=>?_;subst e90;have htlt:t<s₁.c.q.k:=dU ho;have hT:s₁.c.IsList t items:=ho.isList;refine l8 (CR he rs) λkk hv hkk _=>?_;refine wpAny_pyIter_list hT ?_;have str:∀{i:aB} {v:bz},items[i]?=ah v->∃y u,v=.str y u:=fun {i v} e=>by
  rw [← dI,hv] at e;unfold JK at e;rw [cS] at e;refine bf (iP.g e) λw _ e90=>?_;subst e90;exact U1 _ _ af
 refine blk (p:=neE) (F:=λv y=>y=v) (Ih (prog:=c.H) (w:=c.w) (A:=A) hA.b s₁.c.q.k t (b5 htlt) items) (dw rs.ny (ab hz fx)) hcell hkind hx ⟨l4 _ (bY _ af) af af,hT.at λo e=>bE _ e⟩ (KW htlt af) (Fn _) ⟨?_,?_⟩ S₁ (H.qg hs₁ P₁) ?_ ?_ q
 ·intro C i v s₃ m₃ E' hP hn hm hk htk;refine O4 (str hP) λy u e90=>?_;subst e90;simp only [List.forIn_cons,List.forIn_nil,vO,bind_assoc,pure_bind];refine aG (wpAny_isTrue_Compare1 (k0 (fV (env:=zz scope C c.f.j) hkind hx hn hm ?_) hdx));exact J3 (RcNeAt.str_str _ _ _ _ _ _ _ _ (dZ (br ⟨af,_,_,af,λ_ _ e=>e⟩)))
 ·intro C i v s₃ m₃ E' hP _ hn hm hk htk;exact k0 (fV (env:=zz scope C c.f.j) hkind hx hn hm ⟨af,_,_,af,λ_ _ e=>e⟩) hdx
 ·intro h' vs ys hl hP hF hk;have e:vs=items.u:=List.ext_getElem? λj=>by
   by_cases hj:j<vs.a
   ·exact ((bV hj).b (hP j _ (bV hj)).h).b (dI ..).h
   ·exact aA (List.getElem?_eq_none (iJ hj)) (aA (List.getElem?_eq_none (eG▸hl▸iJ hj)) af)
  subst e;exact OY he (rs.FP (λb o eo _=>hk b o eo) (iV.g.d _)) hF
 ·rw [ay];have e1:ts.a=items.k:=by
   have:=aW cC hkk;rw [ay,ay] at this;refine dw this (dw eG (aA hv ?_));unfold JK;rw [ay]
  exact ab (List.length_filter_le _ _) (e1▸rs.ny▸hz)
end
open PySem PySem.Calls PyProof.Rows PySem.SeqAt PySem.W
abbrev Cx.I (c:Cx)(ρ:iV)(h:eI)(a:iV)(b:eI):Prop:=qo c.F c.f.l ρ h a b
def FlR (base h:eI)(ρ:iV)(fl:Fl)(f:Flow):Prop:=match fl with
 |.a=>f=.next
 |.c=>f=.brk
 |.d=>f=.cont
 |.b a=>∃v,f=.ret v/\RV base h ρ a v
def RS (c:Cx)(s:bH)(ρ:iV)(Q:QF)(h:Flow->bH->Prop):Prop:=
 ∀e f d a g b,iF s d->c.I ρ s.c a d.c->c.S a g b d->FlR c.z d.c a e f->Q e g b->h f d
def RP (c:Cx)(s:bH)(ρ:iV)(X:XS)(EC:bz->bH->Prop):Prop:=
 ∀e d b f a,iF s d->c.I ρ s.c b d.c->c.S b f a d->TB s.c d.c e->X f a->EC (.t e) d
section
variable {c:Cx}{e:Ev}{s s₁:bH}{ρ ρ₁:iV}{X:XS}{EC:bz->bH->Prop}
theorem RS.TA (H:RS c s ρ Q k)(f:iF s s₁)(P:c.I ρ s.c ρ₁ s₁.c):RS c s₁ ρ₁ Q k:=
 λg h e b i a d l j r q=>H g h e b i a (f.hJ d) (P.A l) j r q
theorem RS.iG (H:RS c s ρ Q b)(a:iF s s₁)(P:c.P ρ s.c ρ₁ s₁.c):RS c s₁ ρ₁ Q b:=H.TA a P.O
theorem RP.XY (H:RP c s ρ X EC)(f:iF s s₁)(P:c.I ρ s.c ρ₁ s₁.c):RP c s₁ ρ₁ X EC:=
 λg e b h a d j i x q=>H g e b h a (f.hJ d) (P.A j) i (x.i P.E) q
theorem RP.mZ (H:RP c s ρ X EC)(a:iF s s₁)(P:c.P ρ s.c ρ₁ s₁.c):RP c s₁ ρ₁ X EC:=H.XY a P.O
theorem RP.x (H:RP c s ρ X EC):JI c e s ρ (X e) EC:=λg f b a d i h x q=>H g f b e a d i.O h x q
theorem RS.now (H:RS c s ρ Q b)(S:c.S ρ e σ s)(r:FlR c.z s.c ρ fl a)(q:Q fl e σ):b a s:=H fl a s ρ e σ (iF.Ls s) qo.G S r q
theorem RS.nx (H:RS c s ρ Q a)(S:c.S ρ e σ s)(q:Q .a e σ):a .next s:=H.now S (fl:=.a) af q
end
theorem lL {c:Cx}(V:gp c.f c.B)(S:c.S ρ e σ s)(d:c.B[i]?=ah x)(f:c.V s.c ρ a v)
  (h:∀s',iF s s'->c.I ρ s.c ρ s'.c->c.S ρ (bu e i a) σ s'->k () s'):bc c.M A (storeName c.f.j x v) k EC s:=by
 refine Io V S.toSt d f λs' b P j=>h s' b P ⟨j,aS S.j b.2.2.2,λt g=>S.g t (ab b.2.2.2 g),S.i⟩
theorem Ab {c:Cx}(V:gp c.f c.B)(d)(xs:ao (ft×Pos))(as)(vs)(e)(s)(k:d.a=xs.a)(b:as.a=d.a)
  (m:∀(j:aB) i x,d[j]?=ah i->xs[j]?=ah x->c.B[i]?=ah x.1) (S:c.S ρ e σ s) (r:iM c.z s.c ρ as vs)
  (h:∀s',iF s s'->c.I ρ s.c ρ s'.c->c.S ρ (uV e d as) σ s'->n () s'):bc c.M A (qC (xs.d λp=>sA (.r p.1 p.2) c.f.j) vs) n EC s:=by
 induction d generalizing xs as vs e s with
 |nil=>
  obtain rfl:=gE.g k.h;obtain rfl:=gE.g b;obtain rfl:=(r:vs=[]);exact zF (h s (iF.Ls s) qo.G S)
 |cons i d t=>
  cases xs with
  |nil=>injection k
  |cons x xs=>
  cases as with
  |nil=>injection b
  |cons a as=>
  exact r.el (P:=λvs=>bc c.M A (qC ((x::xs).d λp=>sA (.r p.1 p.2) c.f.j) vs) n EC s) λv vs q o=>(pv (jN (lL V S (m 0 i x af af) q λs' u P w=>t xs as vs (bu e i a) s' (js k) (js b) (λj=>m (j+1)) w (P.M o) λf g y l=>h f (u.hJ g) (P.A y) l)))
section
variable (c:Cx)(T:dt)(C:fk)(d u:aB)
def wa (f:S)(x:mJ):Prop:=∀A e a s ρ Q X b EC,zr c d u A->JM c.M A c.f.j EC->X4 T C f e a Q X->c.S ρ e a s->RS c s ρ Q b->RP c s ρ X EC->bc c.M A (exec x c.f.j) b EC s
def Je (f:Ss)(xs:ao mJ):Prop:=∀A e a s ρ Q X b EC,zr c d u A->JM c.M A c.f.j EC->di T C f e a Q X->c.S ρ e a s->RS c s ρ Q b->RP c s ρ X EC->bc c.M A (execs xs c.f.j) b EC s
end
section
variable {c:Cx}{T:dt}{C:fk}{d u:aB}
theorem Kk:Je c T C d u .b []:=λA e a s ρ Q X g EC f b h S H i=>iC (H.nx S h)
theorem Kj (l:wa c T C d u a x):Je c T C d u (.a a .b) [x]:=by
 intro A e j s ρ Q X y EC n m h S H w;refine iX (l A e j s ρ _ X _ EC n m h S ?_ w);intro o i k f p b g v t r q;have H:=H o i k f p b g v t r q;cases i with
 |next=>exact iC H
 |_=>exact H
theorem GX (B:wa c T C d u a x)(z:Je c T C d u (.a b as) xs):Je c T C d u (.a a (.a b as)) (x::xs):=by
 intro A e w s ρ Q X F EC p o h S H t;refine iX (B A e w s ρ _ X _ EC p o h S ?_ t);intro D n k i l g f j m r q;cases D with
 |a=>obtain rfl:=(r:n=.next);exact z A l g k i Q X F EC p o q m (H.TA f j) (t.XY f j)
 |c=>obtain rfl:=(r:n=.brk);exact H .c _ k i l g f j m af q
 |d=>obtain rfl:=(r:n=.cont);exact H .d _ k i l g f j m af q
 |b a=>have y:=r;obtain ⟨v,rfl,G⟩:=y;exact H (.b a) _ k i l g f j m r q
theorem OC (V:gp c.f c.B)(q:hM c T C d u a x)(k:∀t l env,lz x t l env=ij aw):wa c T C d u (.oM a) (.Expr x p):=by
 intro A e o s ρ Q X z EC r y h S H w;refine wpAny_Expr_any (q A e o s ρ _ (X e) _ EC r h S ?_ w.x) (by unfold interactive;exact aA V.a af) (k _ _ _);intro v s₁ ρ₁ n j b i g m f;exact (H.iG b i).nx g f
theorem T3 {i:aB}(V:gp c.f c.B)(F:hM c T C d u a x)(r:∀t l env,lz x t l env=ij aw)(D:c.B[i]?=ah y):wa c T C d u (.rA i a) (.W [.r y J] x p):=by
 intro A e B s ρ Q X M EC G L h S H I;refine zv (F A e B s ρ _ (X e) _ EC G h S ?_ I.x) (r _ _ _);intro v s₁ ρ₁ z q f o m g j;exact lL V m D g λw b n k=>(((H.iG f o).TA b n).nx k j)
theorem pG (he:Heap.ExtBut h.q.k h h'):∀b o,h.f b=ah o->h'.f b=ah o:=λb o e=>he b o (b5 (dU e)) e
theorem Kc (h:CW a e v P):∃vs,v=.f vs/\vs.a=a.a/\P (uV e a vs):=by
 cases v with
 |f vs=>
  obtain ⟨b,h⟩:=qJ h;exact l4 vs af (aD b) h
 |_=>exact h.e
theorem OB {M:ao aB}(V:gp c.f c.B)(ha:hM c T C d u a x)(N:∀t l env,lz x t l env=ij aw)(g:M.a=xs.a)
  (hv:∀(j:aB) i (x:ft×Pos),M[j]?=ah i->xs[j]?=ah x->c.B[i]?=ah x.1) (O:w8 [.X (Oc xs) k P] x c.f.j=ij aq):wa c T C d u (.FK M a) (.W [.X (Oc xs) k P] x p):=by
 intro A e σ s ρ Q X QC EC hA hE h S H HX;refine wpAny_Assign_stores (ha A e σ s ρ _ (X e) _ EC hA h S ?_ HX.x) (by unfold w7;exact N _ _ _) O;intro v s₁ ρ₁ a₁ o y L m D F;refine l8 (Kc F) λvs B Z q=>?_;subst B;refine oh D λt r B ht Y _=>?_;subst B;show bc c.M A (sA (.X (Oc xs) k P) c.f.j (.t t)) _ EC s₁;refine xA hA.b ht.JP (by rw [gg,ay,← g,← Z,Y.ny]) (by rw [gg];simp) λb z=>?_;rw [gg];refine aA gR ?_;have f:=pG z;have I:c.S ρ₁ e o {s₁ with heap:=b}:=m.k (m.toSt.U f);have n:c.P ρ₁ s₁.c ρ₁ b:=qo.D f;exact Ab (s:={s₁ with heap:=b}) V M xs vs r.u e g Z hv I (n.M Y) λW w J G=>((((H.iG y L).iG (s₁:={s₁ with heap:=b}) (fK af af af (au _)) n).TA w J).nx G q)
theorem abS {vs:ao AV}(h:vs.a=2):∃a b,vs=[a,b]:=by
 match vs,h with
 |[a,b],_=>exact U1 a b af
theorem J7 (c:i≠j):uV e [i,j] [a,b]=bu (bu e j b) i a:=by
 funext n;show kr (aM n j) (ah b) (kr (aM n i) (ah a) (e n))=kr (aM n i) (ah a) (kr (aM n j) (ah b) (e n));cases f:aM n i with
 |false=>rfl
 |true=>
  cases d:aM n j with
  |false=>rfl
  |true=>exact bZ ((aD f).h.b (aD d)) c
theorem Ke {i j:aB}(V:gp c.f c.B)(ha:hM c T C d u a x)(Y:∀t l env,lz x t l env=ij aw)(hij:i≠j)
  (hy:c.B[i]?=ah y) (hz:c.B[j]?=ah z) (Z:w8 [.X [.r y py,.r z pz] k tp] x c.f.j=ij (ah [y,z])):wa c T C d u (.FK [i,j] a) (.W [.X [.r y py,.r z pz] k tp] x p):=by
 intro A e σ s ρ Q X QC EC hA hE h S H HX;rw [exec_Assign_arm];refine aG (dh ?_);have:w7 [.X [.r y py,.r z pz] k tp] x p.line c.f.j=ij aw:=by unfold w7;exact Y _ _ _
 refine aA this ?_;refine aG (br ?_);refine aA (dA (by decide)) ?_;refine aG (ha A e σ s ρ _ (X e) _ EC hA h S ?_ HX.x);intro v s₁ ρ₁ a₁ w F P n I J;refine aA Z ?_;refine aG (br ?_);refine l8 (Kc J) λvs m hl q=>?_;subst m;refine oh I λt b m ht rs _=>?_;subst m;show bc c.M A (do
  rule "assign.swapped-stores"
  let b ← unpackItems (.t t) 2 aq
  qC [Oo c.f.j z,Oo c.f.j y] b.B
  ij .next) QC EC s₁
 refine aG (EK (aG ?_));refine aA (show (2:aB)=b.k from hl.h.b rs.ny) ?_;apply jI;intro q9;refine wpAny_unpackItems_tuple hA.b ht.JP λf G=>?_;have g:=pG G;have N:c.S ρ₁ e w {s₁ with heap:=f}:=n.k (n.toSt.U g);have r:c.P ρ₁ s₁.c ρ₁ f:=qo.D g;refine O4 (abS hl) λa1 a2 m=>?_;subst m;refine mO (Zw (r.M rs)) λv1 v2 W r1 r2=>?_;refine aA W ?_;apply aG;show bc c.M A (qC [Oo c.f.j z,Oo c.f.j y] [v2,v1]) _ EC _;refine pv (wpAny_bindName (lL V N hz r2 λs₃ D o M=>?_));refine pv (wpAny_bindName (lL V M hy (o.s r1) λs₄ B O L=>zF (br ?_)));exact ((((H.iG F P).iG (s₁:={s₁ with heap:=f}) (fK af af af (au _)) r).TA D o).TA B O).nx L (dw (J7 hij) q)
theorem CV:3<=ph+2:=by refine aA qw ?_;decide
theorem E7 (O:oZ c)(ha:hM c T C d u a x)(ho:hM c T C d u o y)(V:∀t l env,lz x t l env=ij aw):wa c T C d u (.rz o z a) (.W [.E y (cN z) p'] x p):=by
 intro A e σ s ρ Q X QC EC Z hE h S H HX;refine wpAny_Assign_stores (ha A e σ s ρ _ (X e) _ EC Z h S ?_ HX.x) (by unfold w7;exact V _ _ _) (by rfl);intro v s₁ ρ₁ a₁ i b g G n B;show bc c.M A (do
  let P ← hO [v] (ji y c.f.j)
  m4 p'.atName
  hO [v,P] (setAttr P (cN z) v)
  JW [v,P] []) _ EC s₁
 refine aG (b9 (ho A e i s₁ ρ₁ _ (X e) _ EC Z B G ?_ (HX.mZ b g).x));intro w Y N a₂ L k f F m r;refine aG (dh (aG (b9 (sf O r F m (f.s n) ?_))));intro W M J j I D q;exact EU ((((H.iG b g).iG k f).iG j I).nx D q)
theorem Ip (ha:hM c T C d u a x)(ho:hM c T C d u o y)(hi:hM c T C d u i z)(hsw:∀t l env,lz x t l env=ij aw):wa c T C d u (.yw o i a) (.W [.P y z p'] x p):=by
 intro A e σ s ρ Q X QC EC hA hE h S H HX;refine wpAny_Assign_Subscript (ha A e σ s ρ _ (X e) _ EC hA h S ?_ HX.x) (hsw _ _ _);intro v s₁ ρ₁ a₁ n b k W I N;refine ho A e n s₁ ρ₁ _ (X e) _ EC hA N W ?_ (HX.mZ b k).x;intro w D q a₂ m f j V G M;refine hi A e m D q _ (X e) _ EC hA M V ?_ ((HX.mZ b k).mZ f j).x;intro iv s₃ ρ₃ a₃ σ₃ B g P F L;apply tw L P (g.s G) F (g.s (j.s I));intro s₄ ρ₄ Z r Y O J;exact ((((H.iG b k).iG f j).iG B g).iG r Y).nx O J
theorem CY {o lo hi a:E}(ha:hM c T C d u a x)(ho:hM c T C d u o y)(hl:hM c T C d u lo zl)(hh:hM c T C d u hi zh)(hsw:∀t l env,lz x t l env=ij aw) :
  wa c T C d u (.qN o lo hi a) (.W [.P y (.Slice (ah zl) (ah zh) aq p2) p'] x p):=by
 intro A e σ s ρ Q X QC EC hA hE h S H HX;refine wpAny_Assign_Subscript (ha A e σ s ρ _ (X e) _ EC hA h S ?_ HX.x) (hsw _ _ _);intro v s₁ ρ₁ a₁ z b k S₁ N Y;refine ho A e z s₁ ρ₁ _ (X e) _ EC hA Y S₁ ?_ (HX.mZ b k).x;intro w n D a₂ r f j S₂ M W;show bc c.M A (do
  let l ← ji zl c.f.j;let u ← hO [l] (ji zh c.f.j);let s ← hO [l,u] (nk (zx aq c.f.j))
  JL "slice" [l,u,s]) _ EC n
 apply jI;intro q9;refine aG (hl A e r n D _ (X e) _ EC hA W S₂ ?_ ((HX.mZ b k).mZ f j).x);intro vl I B a₃ q m i S₃ L V;refine aG (b9 (hh A e q I B _ (X e) _ EC hA V S₃ ?_ (((HX.mZ b k).mZ f j).mZ m i).x));intro vh s₄ ρ₄ a₄ σ₄ G g S₄ J P;refine aG (b9 (br ?_));refine jM ?_ CV;apply xJ P S₄ (g.s (i.s M)) (g.s L) J (g.s (i.s (j.s N)));intro s₅ ρ₅ σ₅ F P₅ Z O;exact (((((H.iG b k).iG f j).iG m i).iG G g).iG F P₅).nx Z O
theorem T8 {i:aB}(V:gp c.f c.B)(Z:hM c T C d u a x)(J:c.B[i]?=ah y):wa c T C d u (.Sw i P a) (.km (.r y p') (xS P) x p):=by
 intro A e N s ρ Q X QC EC hA hE h S H HX;refine bf (E0 h) λW Y h=>?_;refine wpAny_AugAssign_Name (Dc V S.toSt J Y λvo O=>?_);refine Z A e N s ρ _ (X e) _ EC hA h S ?_ HX.x;intro v s₁ ρ₁ M D j b r l n;apply sO n r (b.s O) l;intro w I F L B g z q k m;exact lL V q J k λG f t o=>((((H.iG j b).iG g z).TA f t).nx o m)
theorem E9 (O:oZ c)(ho:hM c T C d u o y)(ha:hM c T C d u a x):wa c T C d u (.rC o z op a) (.km (.E y (cN z) p') (xS op) x p):=by
 intro A e σ s ρ Q X QC EC hA hE h S H HX;refine wpAny_AugAssign_AttributeAny (ho A e σ s ρ _ (X e) _ EC hA h S ?_ HX.x);intro w s₁ ρ₁ Y σ₁ j r S₁ n W;apply yt (Q:=λold m=>ey T C a e m (λv b=>yk op old v b λw g=>lO Y z w g λf=>Q .a e f) (X e)) O W S₁ n;intro vo G t a₂ b i l S₂ L V;refine ha A e b G t _ (X e) _ EC hA V S₂ ?_ ((HX.mZ j r).mZ i l).x;intro v s₃ ρ₃ a₃ g F k S₃ J P;apply sO P S₃ (k.s L) J;intro nw s₄ ρ₄ a₄ f D q S₄ I N;apply sf O N S₄ (q.s (k.s (l.s n))) I;intro s₅ ρ₅ σ₅ B P₅ Z M;exact (((((H.iG j r).iG i l).iG F k).iG D q).iG B P₅).nx Z M
theorem Iq (ho:hM c T C d u o y)(hi:hM c T C d u i z)(ha:hM c T C d u a x)
  (hz:∀ov Y D,augStore z ov Y D=(do hO [D,ov,Y] (lX ov Y D);JW [D,ov,Y] [];ij .next)):wa c T C d u (.yx o i op a) (.km (.P y z p') (xS op) x p):=by
 intro A e σ s ρ Q X QC EC hA hE h S H HX;refine wpAny_AugAssign_SubscriptAny (ho A e σ s ρ _ (X e) _ EC hA h S ?_ HX.x) hz;intro w s₁ ρ₁ a₁ I f t S₁ G h₁;refine hi A e I s₁ ρ₁ _ (X e) _ EC hA h₁ S₁ ?_ (HX.mZ f t).x;intro Y s₂ ρ₂ a₂ σ₂ q k S₂ F h₂;apply Al (Q:=λold B=>ey T C a e B (λv b=>yk op old v b λw m=>mr a₁ a₂ w m λl=>Q .a e l) (X e)) h₂ S₂ (k.s G) F;intro vo O J a₃ b n j S₃ W h₃;refine ha A e b O J _ (X e) _ EC hA h₃ S₃ ?_ (((HX.mZ f t).mZ q k).mZ n j).x;intro v s₄ ρ₄ a₄ m N g S₄ V h₄;apply sO h₄ S₄ (g.s W) V;intro nw s₅ ρ₅ a₅ l M r S₅ P h₅;apply tw h₅ S₅ (r.s (g.s (j.s (k.s G)))) (r.s (g.s (j.s F))) P;intro s₆ ρ₆ σ₆ L P₆ S₆ Z;exact ((((((H.iG f t).iG q k).iG n j).iG N g).iG M r).iG L P₆).nx S₆ Z
theorem E8 {o O:E}(ho:hM c T C d u o y)(hl:hM c T C d u O z):wa c T C d u (.tQ o O) (.Delete [.P y (.Slice (ah z) aq aq p2) p1] p):=by
 intro A e Z s ρ Q X QC EC P hE h S H Y;refine wpAny_Delete (wpAny_deleteEach_cons ?_);show bc c.M A (do
  let D ← ji y c.f.j;let L ← hO [D] (ji (.Slice (ah z) aq aq p2) c.f.j)
  m4 p1
  hO [D,L] (JY D L)
  JW [D,L] []) _ EC s
 apply jI;intro q9;refine aG (ho A e Z s ρ _ (X e) _ EC P h S ?_ Y.x);intro w s₁ ρ₁ W g a f x m r;refine aG (b9 ?_);show bc c.M A (do
  let l ← ji z c.f.j;let u ← hO [l] (nk (zx aq c.f.j));let s ← hO [l,u] (nk (zx aq c.f.j))
  JL "slice" [l,u,s]) _ EC s₁
 apply jI;intro q9;refine aG (hl A e g s₁ ρ₁ _ (X e) _ EC P r x ?_ (Y.mZ a f).x);intro vl N J V G j b v k q;refine aG (b9 (br (aG (b9 (br ?_)))));refine jM ?_ CV;refine aG (dh (aG (b9 (zP q v (b.s m) k ?_))));intro M I F i B t n;exact EU (wpAny_deleteEach_nil ((((H.iG a f).iG j b).iG i B).nx t n))
theorem T5 (y:zT c T C d u q x)(B:Je c T C d u a w)(z:Je c T C d u b v):wa c T C d u (.vj q a b) (.If x w v p):=by
 intro A e t s ρ Q X o EC l n h S H m;refine wpAny_If (y A e t s ρ _ (X e) _ EC l h S ?_ m.x);intro r s₁ ρ₁ i f g j k;rcases tJ k with ⟨rfl,k⟩|⟨rfl,k⟩
 ·exact bQ _ af (B A e i s₁ ρ₁ Q X o EC l n k j (H.iG f g) (m.mZ f g))
 ·exact bQ _ af (z A e i s₁ ρ₁ Q X o EC l n k j (H.iG f g) (m.mZ f g))
theorem T4 (n:hM c T C d u a x):wa c T C d u (.CF a) (.Return (ah x) p):=by
 intro A e m s ρ Q X t EC o r h S H q;refine zu (n A e m s ρ _ (X e) _ EC o h S ?_ q.x);intro v s₁ ρ₁ i l b k j f g;exact (H.iG b k).now j (fl:=.b i) (bQ _ af f) g
theorem T6:wa c T C d u .Pu (.Break p):=λA e b s ρ Q X a EC g f h S H i=>by
 show bc c.M A (do m4 p;ij .brk) a EC s;exact aG (dh (br (H.now S (fl:=.c) af h)))
theorem OD:wa c T C d u .FN (.Continue p):=λA e b s ρ Q X a EC g f h S H i=>by
 show bc c.M A (do m4 p;ij .cont) a EC s;exact aG (dh (br (H.now S (fl:=.d) af h)))
theorem Kg (o:rq c T N L M) (V:gp c.f c.B) (D:c.f.j.Q "ValueError"=ah .A)
  (F:hM c T C d u a x) (k:∀env rest,eB (x::rest) env=(aw,ji x env)::eB rest env):wa c T C d u (.wb a) (.Raise (ah (.Z (.r "ValueError" J) [x] [] I)) aq p):=by
 intro A e z s ρ Q X P EC r O h S H y;refine Raise_madeB PySem.F.excCall_ValueError PySem.F.excRaise_ValueError r.b (pF S V ⟨D,by decide⟩ o.g o.b (.y o.m) ⟨af,?_⟩) (k _ _) af;rw [k];show bc c.M A (vP [(aw,ji x c.f.j)]) _ EC s;refine ki (F A e z s ρ _ (X e) _ EC r h S ?_ y.x);intro v s₁ ρ₁ w b g m f q j;refine qx ⟨by show 1<=ph;refine aA qw ?_;decide,λi G n=>?_⟩;have l:c.S ρ₁ e b {s₁ with heap:=i}:=f.k (f.toSt.U n.keeps);refine l8 n.there λt B _ _=>?_;refine (y.mZ g m) G _ ρ₁ e b (fK af af af (au _)) (qo.D n.keeps) l ⟨n.new,_,_,⟨B,af,af⟩,.C af⟩ j
end
open PySem PySem.Calls PyProof.Rows PySem.SeqAt PySem.W
theorem qo.S {g:ao eH}(x:qo F own ρ h d r)(c:∀b o,b∉g->r.f b=ah o->j.f b=ah o)(q:∀b∈g,h.f b=aq):qo F own ρ h d j:=by
 have a:∀b o,h.f b=ah o->b∉g:=λb o e m=>ba (q b m) e;refine ⟨x.J,x.H,λb o e=>?_,λb o e i=>c b o (a b o e) (x.B b o e i),λb o e n w f=>c b o (a b o e) (x.I b o e n w f),λb o e n w=>?_⟩
 ·obtain ⟨l,k⟩:=x.E b o e;exact ⟨l,c b l (a b o e) k⟩
 ·obtain ⟨p,k⟩:=x.N b o e n w;exact ⟨p,c b _ (a b o e) k⟩
theorem St.but {j:ao eH}(S:St prog w base cls f vars outer ρ e σ h)
  (g:∀b o,b∉j->h.f b=ah o->k.f b=ah o) (d:∀b∈j,b∉iL ρ/\¬ f.l b/\b∉dF (f.j::outer)/\base.f b=aq/\∀o,h.f b=ah o->¬ uK o):St prog w base cls f vars outer ρ e σ k:=by
 have c:z6 h k:=λb o a i=>g b o (λm=>(d b m).2.2.2.2 o a i) a;exact S.Su (iV.g.d _) c (λz m=>.C m) (λb o a z m=>⟨o.slots,g b o m a⟩) (λb m=>⟨(d b m).2.1,(d b m).2.2.1⟩) (λb o a=>g b o (λm=>ba (d b m).2.2.2.1 a) (S.E b o a)) (S.K.L c λb o l a=>g b o (λm=>(d b m).1 l) a)
section
variable {c:Cx}{T:dt}{C:fk}{d u:aB}
theorem CS.n (S:c.S ρ e σ s)(d:s.c.f b=aq):b∉iL ρ/\¬ c.f.l b/\b∉c.F/\c.z.f b=aq:=by
 refine fK (λm=>?_) (λq=>?_) (λq=>?_) ?_
 ·refine bf (S.K.H m) λo a z=>?_;exact ba d a
 ·rcases q with rfl|⟨x,f⟩
  ·refine acH S.ns λm o z z a z=>?_;exact ba d a
  ·refine l6 (S.Yg x b f) λv o a z=>?_;exact ba d a
 ·refine K2 (S.R b q) λo z z a z=>?_;exact ba d a
 ·cases q:c.z.f b with
  |none=>rfl
  |some o=>exact ba d (S.E b o q)
structure WhB (c:Cx)(W:aB->Ev->a8->Prop)(s:bH)(ρ:iV)(n:aB)(s':bH)(ρ':iV)(e':Ev)(σ':a8):Prop where
 a:iF s s'
 b:c.I ρ s.c ρ' s'.c
 e:c.S ρ' e' σ' s'
 f:W n e' σ'
def WhI (c:Cx)(W:aB->Ev->a8->Prop)(s:bH)(ρ:iV)(n:aB)(s':bH):Prop:=∃b d a,WhB c W s ρ n s' b d a
theorem T1 (hq:zT c T C d u q x)(hb:Je c T C d u b ys):wa c T C d u (.Lu q b) (.While x ys [] p):=by
 intro A e σ s ρ Q X QC EC hA hE h S H HX;obtain ⟨k,h⟩:=h;refine wpAny_While (codeAny_whileLoop (WhI c (λn e' σ'=>qm (ey T C q) (di T C b) n e' σ' Q X) s ρ) ?_ k ⟨ρ,e,σ,iF.Ls s,qo.G,S,h⟩);rintro n V ⟨M,z,J,i,y,W,F⟩;cases n with
 |zero=>exact F.e
 |succ n=>
  apply jI;intro q9;refine CM hE (hq A z J V M _ (X z) _ EC hA F W ?_ (HX.XY i y).x);intro r O L I m B G l;rcases tJ l with ⟨rfl,l⟩|⟨rfl,l⟩
  ·refine bQ _ af (CM hE (hb A z I O L _ X _ EC hA hE l G ?_ ((HX.XY i y).mZ m B)));intro fl f' D g t f N Y w j o;have Z:=(i.hJ m).hJ N;have P:=(y.A (qo.O B)).A Y;cases fl with
   |a=>have qa:=(j:f'=.next);subst qa;exact ⟨n,cA n,g,t,f,Z,P,w,o⟩
   |d=>have qa:=(j:f'=.cont);subst qa;exact ⟨n,cA n,g,t,f,Z,P,w,o⟩
   |c=>obtain rfl:=(j:f'=.brk);exact H .a _ D g t f Z P w af o
   |b a=>have r:=j;obtain ⟨v,rfl,_⟩:=r;exact H (.b a) _ D g t f Z P w j o
  ·exact bQ _ af (iC (((H.TA i y).iG m B).nx G l))
def TgX (c:Cx)(d u:aB)(i:Ev->AV->(Ev->Prop)->Prop)(target:fU):Prop:=∀A x v e f s a (Q:Ev->Prop) (h:Unit->bH->Prop) j,zr c d u A->c.S a e f s->c.V s.c a x v->i e x Q->
 (∀b g,iF s b->c.I a s.c a b.c->c.S a g f b->Q g->h () b)->bc c.M A (sA target c.f.j v) h j s
theorem YB (V:gp c.f c.B)(b:c.B[i]?=ah y):TgX c d u (CX i) (.r y p):=by
 intro A x v e j s k Q m n l S r h H;exact jN (lL V S b r λa f P g=>H a _ f P g h)
theorem YA (V:gp c.f c.B)(hlen:is.a=xs.a)(hv:∀(j:aB) i x,is[j]?=ah i->xs[j]?=ah x->c.B[i]?=ah x.1) :
  TgX c d u (CW is) (.X (Oc xs) k tp):=by
 intro A x v e σ s ρ Q QC EC hA S r h H;refine l8 (Kc h) λvs e90 hl q=>?_;subst e90;refine oh r λt items e90 ht rs _=>?_;subst e90;refine xA hA.b ht.JP (by rw [gg,ay,← hlen,← hl,rs.ny]) (by rw [gg];simp) λh₂ he₂=>?_;rw [gg];refine aA gR ?_;have hk₂:=pG he₂;have S₂:c.S ρ e σ {s with heap:=h₂}:=S.k (S.toSt.U hk₂);have P₂:c.P ρ s.c ρ h₂:=qo.D hk₂;exact Ab (s:={s with heap:=h₂}) V is xs vs items.u e hlen hl hv S₂ (P₂.M rs) λs₃ hs₃ P₃ S₃=>(H s₃ _ hs₃ ((qo.O P₂).A P₃) S₃ q)
structure FrB (c:Cx)(n:aB)(St':aB->eI->Prop)(wr:ao eH)(W:aB->Ev->a8->Prop)(s:bH)(ρ:iV)(k:aB)(s':bH)(i:aB)(ρ':iV)(e':Ev)(σ':a8):Prop where
 a:i<=n
 e:k=n+1-i
 f:iF s s'
 g:c.I ρ s.c ρ' s'.c
 h:c.S ρ' e' σ' s'
 j:St' i s'.c
 l:∀b∈wr,b∉iL ρ'
 m:W i e' σ'
def FrI (c:Cx)(n:aB)(d:aB->eI->Prop)(e:ao eH)(W:aB->Ev->a8->Prop)(s:bH)(ρ:iV)(k:aB)(s':bH):Prop:=
 ∃i b f a,FrB c n d e W s ρ k s' i b f a
theorem Dn {b:Ss}{e:Ev}
  (W:KTurns c.H c.w A target I fp wr n P Md St') (hA:zr c d u A) (hE:JM c.M A c.f.j EC) (htg:TgX c d u tg target) (y:Je c T C d u b body) (hnl:n=l.a)
  (S:c.S ρ e σ s) (hk₂:∀b o,s.c.f b=ah o->h₂.f b=ah o) (hwr:∀b∈wr,s.c.f b=aq) (hst:St' 0 h₂)
  (hex:∀i h,St' i h->∀b∈wr,∃o,h.f b=ah o/\¬ uK o) (hfp:∀i h,St' i h->∀b∈fp,b∈wr\/∃o,h.f b=ah o/\uK o)
  (hP:∀i v h ρ',P i v h->ρ.g ρ'->(∀b o,s.c.f b=ah o->uK o->h.f b=ah o)->∀x,l[i]?=ah x->RV c.z h ρ' x v)
  (h:jg tg (di T C b) l e σ Q X) (H:RS c s ρ Q QC) (HX:RP c s ρ X EC) :
  oF c.M A (.forLoop target (.t I) body [] c.f.j) (λr s'=>match r with|.ok f=>QC f s'|.error e=>TK c.M A c.f.j EC e s') {s with heap:=h₂}:=by
 have wf:∀b∈wr,¬ c.f.l b/\b∉c.F/\c.z.f b=aq:=λb y=>(S.n (hwr b y)).2;let I₀:=FrI c n St' wr (λi e' σ'=>jg tg (di T C b) (l.m i) e' σ' Q X) s ρ;refine codeAny_forLoop_any I₀ ?_ (n+1)
  ⟨0,ρ,e,σ,bG _,af,fK af af af (au _),qo.D hk₂,S.k (S.toSt.U hk₂),hst,λb y=>(S.n (hwr b y)).1,h⟩
 rintro k s₁ ⟨i,g,e₁,F,hi,rfl,hs₁,P₁,w,G,J,O⟩;by_cases hlt:i<n
 ·have hil:=hnl▸hlt;have O:=jQ hil▸O;apply jI;intro q9;refine fT (au _) (W.item i _ _ _ hlt G λv h₃ V hMd L j=>?_);refine W.go i v _ _ _ hMd λB hPv Y hk₄=>?_;have up:∀b o,b∉wr->s₁.c.f b=ah o->B.f b=ah o:=λb o y eo=>hk₄ b o y (L b o y eo);have Z:=w.toSt.but up λb y=>lP (J b y) ((wf b y).1) ((wf b y).2.1) ((wf b y).2.2) (λo eo=>by
   refine bf (hex i _ G b y) λo' eo' ni=>?_;obtain rfl:=aK (eo'.h.b eo);exact ni)
  have S₄:c.S g e₁ F {s₁ with heap:=B,toks:=V}:=⟨Z,aS w.j j,λt ht=>w.g t (ab j ht),w.i⟩;have P₄:c.I ρ s.c g B:=P₁.S up hwr;have hs₄:iF s {s₁ with heap:=B,toks:=V}:=hs₁.hJ (fK af af af j);refine htg A l[i] v e₁ F _ g _ _ _ hA S₄ (hP i v B g hPv P₁.J P₄.B _ (bV hil)) O λs₅ e₅ hs₅ P₅ S₅ q₅=>?_;apply jI;intro q9;refine CM hE (y A e₅ F s₅ g _ X _ EC hA hE q₅ S₅ ?_ ((HX.XY hs₄ P₄).XY hs₅ P₅));intro fl f' M p e₆ D hs₆ P₆ S₆ N z;have hs:=(hs₄.hJ hs₅).hJ hs₆;have PP:c.I ρ s.c p M.c:=(P₄.A P₅).A P₆;have P46:c.I g B p M.c:=P₅.A P₆;have nm₆:∀b∈wr,b∉iL p:=λb y m=>by
   rcases P46.H b m with q|q
   ·exact J b y q
   ·refine bf (hex _ _ Y b y) λo eo _=>?_;exact ba q eo
  have st₆:=W.frame _ _ _ Y λb y o eo=>by
   rcases hfp _ _ Y b y with hw|⟨o',eo',im⟩
   ·exact P46.I b o eo (J b hw) (wf b hw).1 (wf b hw).2.1
   ·obtain rfl:=aK (eo'.h.b eo);exact P46.B b _ eo' im
  have nx:jg tg (di T C b) (l.m (i+1)) e₆ D Q X->∃k<n+1-i,FrI c n St' wr (λi e' σ'=>jg tg (di T C b) (l.m i) e' σ' Q X) s ρ k M:=λz=>
   ⟨n+1-(i+1),tn (bb hlt) (cA i),i+1,p,e₆,D,hlt,af,hs,PP,S₆,st₆,nm₆,z⟩
  cases fl with
  |a=>obtain rfl:=(N:f'=.next);exact nx z
  |d=>obtain rfl:=(N:f'=.cont);exact nx z
  |c=>obtain rfl:=(N:f'=.brk);exact H .a _ M p e₆ D hs PP S₆ af z
  |b a=>have r:=N;obtain ⟨v,rfl,_⟩:=r;exact H (.b a) _ M p e₆ D hs PP S₆ N z
 ·have hin:=rt hi (iZ.g hlt);subst hin;rw [hnl,p6] at O;apply jI;intro q9;refine fT (au _) (W.done _ _ _ G λh₃ V L j=>iC ?_);have Z:=w.toSt.but L λb y=>lP (J b y) ((wf b y).1) ((wf b y).2.1) ((wf b y).2.2) (λo eo=>by
   refine bf (hex _ _ G b y) λo' eo' ni=>?_;obtain rfl:=aK (eo'.h.b eo);exact ni)
  exact H .a .next _ g e₁ F (hs₁.hJ (fK af af af j)) (P₁.S L hwr) ⟨Z,aS w.j j,λt ht=>w.g t (ab j ht),w.i⟩ af O
theorem GZ {h:eI}:∀b∈[h.q.k],h.f b=aq:=λb a=>aA (a6.g a) (kv h)
theorem IK (h:tG v=ah l):v=.f l\/∃a b st,v=.k a b st/\(st=1\/st=-1)/\l=(dc a b st).d .d:=by
 apply gl;intro e;cases v with
 |f d=>obtain rfl:=aK h;exact .C af
 |k a b st=>
  have h:(if st=1\/st=-1 then ah ((dc a b st).d AV.d) else aq)=ah l:=h
  by_cases c:st=1\/st=-1
  ·rw [c7 c] at h;exact .y (KS a b st af c ((aK h).h))
  ·have h:=dA c▸h;injection h
 |_=>exact ba af h
theorem Ko {E:bz->bH->Prop} (d:s.c.f I=ah o) (f:o.cls=.v x) (e:o.U=.T vs) (b:["enumerate","zip","dict_itemiterator","dict_reverseitemiterator","odict_iterator","itertools.zip_longest","itertools.pairwise"].contains x=aw) (q:Q () s):bc c.M A (CN target (.t I) v) Q E s:=by
 obtain ⟨j,i,h,g⟩:=o;subst f;subst e;have a:bc c.M A (CN (.List [] ⟨0,0,0,0⟩) (.t I) v) Q E s:=by
  cases v<;>first|exact br q|exact aG (wpAny_load d (by show bc _ _ (if (_&&_)=ax then _ else _) _ _ _;exact b▸br q))
 cases target<;>first|exact a|exact br q
theorem Ki (hir:∀{e σ Q X},X4 T C ir e σ Q X->ey T C src e σ (λv n=>lh (tG v) λl=>jg tg (di T C b) l e n Q X) (X e))
  (P:hM c T C d u src F) (hfs:∀env x,iD F env x=ij x) (O:TgX c d u tg target) (k:Je c T C d u b Z):wa c T C d u ir (.For target F Z [] p):=by
 intro A e σ s ρ Q X QC EC Y hE h S H HX;refine wpAny_For (P A e σ s ρ _ (X e) _ EC Y (hir h) S ?_ HX.x) (hfs _);intro v g ρ₁ a₁ n f m G D j;apply jI;intro q9;apply gl;intro g9;refine bf (hR j) λl hl j=>?_;rcases IK hl with rfl|⟨a,b',M,rfl,I,rfl⟩
 ·apply J5;intro x9;refine oh D λt w L J rs hz=>?_;subst L;obtain ⟨nn,ht⟩:=J;have hT:g.c.mD t w:=⟨_,ht,af,nn,af⟩;refine pf hT (Dn (m7 (oC Y.b g.c.q.k t (b5 (dU ht)) w) λi v s Q E M q=>CP M.1 q) Y hE O k rs.ny.h G (Kp.w5 _) GZ ⟨l4 _ (bY _ af) af af,hT.at λo e=>bE _ e⟩ ?_ ?_ ?_ j (H.iG f m) (HX.mZ f m))
  ·rintro i h ⟨⟨o,V,I,hd⟩,_⟩ b k;exact bQ o (aA (a6.g k) V) (pE V I (by decide) (by decide) _ (a6.i af) _ V)
  ·rintro i h ⟨_,⟨o,V,I,n',hd⟩⟩ b k;rcases cz.g k with k|k
   ·exact .C (a6.i k)
   ·exact .y (bQ o (aA (a6.g k) V) (.C ⟨I,_,_,hd⟩))
  ·intro i v h ρ' hP W N x z;refine bf (rs.Px z) λv' hv' rv=>?_;obtain rfl:=aK (hP.h.b (dw dI hv'));exact RV.yz N W _ _ rv
 ·refine K3 D λr L J ha hb' _=>?_;subst L;refine O2 J λt1 t2 t3 hr=>?_;refine wpAny_pyIter_range hr (Ag I ha hb') (Dn (m7 (Walks.range Y.b g.c.q.k a M (dc a b' M).a) λi v s Q E st' q=>Ko st' af af af q) Y hE O k (by rw [ay]) G (Kp.w5 _) GZ ?_ ?_ ?_ ?_ j (H.iG f m) (HX.mZ f m))
  ·refine aA (lE I) ?_
   simpa [IsRangeIter] using bY g.c af
  ·intro i h B b k;exact bQ _ (aA (a6.g k) B) (pE B af (by decide) (by decide) _ (a6.i af) _ B)
  ·exact λi h B b k=>.C k
  ·intro i v h ρ' hP W N x z;obtain ⟨t,rfl⟩:=hP;have z:=cS▸z;cases hg:(dc a b' M)[i]? with
   |none=>have z:=hg▸z;injection z
   |some y=>
    rw [hg] at z;obtain rfl:=aK z;obtain rfl:=aK (qF I i (a7.g hg).1▸hg);exact gz
end
open PySem PySem.Calls PyProof.Rows PySem.SeqAt PySem.W
section
variable {c:Cx}{T:dt}{C:fk}{d u:aB}
theorem Ai {h:eI}(q:(h.push o).f b=aq):h.f b=aq:=by
 cases z:h.f b with
 |none=>rfl
 |some o=>exact ba q (bE _ z)
theorem Kf (V:gp c.f c.B) (hsrc:hM c T C d u src F) (hfs:∀env x,iD F env x=ij x) (hdx:(x==("__debug__" : ft))=aw)
  (hfree:∀z∈scope.n,z.2≠.free) (hcell:∀z∈scope.n,z.2≠.cell) (I:scope.mC=.L) (Y:∀z∈scope.n,z.2=.F->scope.n.j z.1=ah .F) (hx:scope.n.j x=ah .F) (hy:c.B[k]?=ah y)
  (hsw:lz (.M (.BinOp (.r x p1) .Mult (.r x p2) pe) [⟨.r x px,F,[],0⟩] scope pos) (ah (.r y py)) sp.line c.f.j=ij ax) :
  wa c T C d u (.rA k (.F src)) (.W [.r y py] (.M (.BinOp (.r x p1) .Mult (.r x p2) pe) [⟨.r x px,F,[],0⟩] scope pos) sp):=by
 intro A e σ s ρ Q X QC EC hA hE h S H HX;refine aA (exec_Assign_Name_used _ _ _ _ hsw) ?_;refine aG (dh (aG ?_));show bc c.M A (do let _ ← comprehension (.M (.BinOp (.r x p1) .Mult (.r x p2) pe) [⟨.r x px,F,[],0⟩] scope pos) scope c.f.j _ (JX []) aw (ji F c.f.j) (ah (sA (.r y py) c.f.j))) _ _ s;refine aG (mH (wpAny_comprehension_use (Q:=λ_ O=>QC .next O) af (hfs _) hfree I Y (hsrc A e σ s ρ _ (X e) _ EC hA h S ?_ HX.x)) (λ_ O hq=>br (br hq)) λ_ _ e=>e);intro v f l a₁ L hs₁ P₁ g r₁ h₁;refine gl ?_;intro g9;cases a₁ with
 |k a b st=>
  refine jI ?_;intro q9;refine Bz h₁ λe90 hsm hz q=>?_;subst e90;refine K3 r₁ λpr e90 e91 ha J _=>?_;subst e90;refine O2 e91 λt u' w' hr=>?_;refine wpAny_pyIter_range hr (Ag (.y af) ha J) ?_;refine Ak (n:=f.D) (au _) (comp_block_walk (RR:=λacc G r O=>f.D<=O.D->match r with
   |.ok _=>bc c.M A (sA (.r y py) c.f.j acc) (λ_ s''=>∃m,s''.c.Ns G.lC m/\∀W,gr G.lC s''.c W->QC .next {s'' with heap:=W}) EC O
   |.error x=>∃m,O.c.Ns G.lC m/\∀W,gr G.lC O.c W->bc c.M A (passOn "comprehension.variables-let-go" x G) (λ_ O=>QC .next O) EC {O with heap:=W}) (Walks.lt (Walks.range (prog:=c.H) (w:=c.w) (A:=A) hA.b f.c.q.k a (-1) (dc a b (-1)).a)) (ab hz fx) (λ_=>ax) (λv y=>∀i t,v=wD i t->∃t',y=wD (i*i) t') hcell I hx ?_ ?_ ⟨?_,?_⟩ ?_)
  ·refine aA (lE (.y af)) ?_
   simpa [IsRangeIter] using bY f.c af
  ·intro b J;obtain rfl:=a6.g J;exact dU (bY _ af)
  ·intro C i v B m₃ E' hP hn hm hk M;exact br ⟨af,B.c,B.D,af,λ_ _ e=>e⟩
  ·intro C i v B m₃ E' hP _ hn hm hk M;obtain ⟨⟨t,rfl⟩,hi⟩:=hP;have J:=hsm _ (eQ (qF (.y af) i hi));have J:(a+(i:aU)*-1).o<2 ^ 1000:=cH J (aa af);have ld:∀{p:Pos} {QQ:bz->bH->Prop},QQ (.O (a+(i:aU)*-1) t) B->bc c.M A (ji (.r x p) (zz scope C c.f.j)) QQ E' B:=λq=>k0 (fV (env:=zz scope C c.f.j) I hx hn hm q) hdx;refine wpAny_BinOp (ld (ld (PyProof.Rows.mul_int ⟨?_,_,_,af,λ_ _ e=>e⟩ (Sd J J))));intro i' t' e;refine gl ?_;intro g9;injection e with e;subst e;exact ⟨_,af⟩
  ·intro D C W tk m' ys vs hD hC hDC hn _ hpl hlen hP hF hk M;have hD1:=Ai hD;have hC1:=Ai hC;have kk:∀b o,f.c.f b=ah o->W.f b=ah o:=λb o eo=>hk b o (λm=>bZ (dU eo) (dw (a6.g m) (kj _))) (bE _ eo);have fC:=g.n hC1;have hf:∀a∈zj (D,aq),f.c.f a=aq:=λa ha=>aA (a6.g ha) hD1;have P:c.P l f.c (l.f (D,aq)) W:=.P (iV.g.f _ _) (tC hf) kk;rw [List.filter_eq_self.i λ_ _=>af] at hF;have St2:=g.toSt.DB P (oH g.E kk) (g.K.N g.E kk (.a _) hf (eC.i ⟨dm,jz⟩) ⟨af,ys,hpl,(IC (λj v e=>(hP j v e).1.e λt e'=>fF _ t (qF (.y af) j (hP j v e).2) e') hlen hF).FP (λ_ _ e _=>e) (iV.g.f _ _),by rw [ay];exact hz⟩);have S₂:c.S (l.f (D,aq)) e (L++[.a ((dc a b (-1)).d λi=>.d (i*i))]) {f with heap:=W,toks:=tk}:=⟨St2,aS g.j M,λt ht=>g.g t (ab M ht),g.i⟩;have nC:C∉iL (l.f (D,aq)):=λm=>(ze.g (dw (u5 l (D,aq)) m)).e fC.1 λm=>hDC (a6.g m).h;refine sE ?_;intro s9;refine jN (lL V S₂ hy (a:=.e L.a) (bQ (D,aq) af (dw g.K.D eJ)) λZ hs₅ P₅ S₅=>?_);have N:Z.c.Ns C m':=hn.at' λo eo=>P₅.I C o eo nC fC.2.1 fC.2.2.1;refine bQ m' N (λh₆ hs₆=>?_);have up:∀b o,b∉[C]->Z.c.f b=ah o->h₆.f b=ah o:=λb o J eo=>(hs₆.2 b λq=>J (aA q (a6.i af))).b eo;have S₆:=S₅.k (S₅.toSt.but up λb J=>by have qa:=a6.g J;subst qa;exact lP nC fC.2.1 fC.2.2.1 fC.2.2.2 (λo eo=>pD N eo));have hs₂:iF f {f with heap:=W,toks:=tk}:=fK af af af M;exact H .a .next _ _ _ _ (hs₁.hJ (hs₂.hJ (hs₅.hJ (fK af af af (au _))))) (P₁.O.A ((P.O.A P₅).S up λb J=>aA (a6.g J) hC1)) S₆ af q
 |_=>exact h₁.e
end
open PySem PySem.Calls PyProof.Rows PySem.SeqAt PySem.W
section
variable {c:Cx}{T:dt}{C:fk}{d u:aB}
theorem Ft {K h:bz->bH->Prop}(S:c.S ρ e σ s)(H:∀v s' b,iF s s'->c.P ρ s.c b s'.c->c.S b e (σ++[.a []]) s'->c.V s'.c b (.e σ.a) v->K v s'):bc c.M A (JX []) K h s:=
 jM (n4.N4 (vs:=[]) (Q:=λa d=>a=.e σ.a/\d=σ++[.a []]) (λv s' b a d g P S r q=>by have f:=q.1;subst f;have f:=q.2;subst f;exact H v s' b g P S r) S af (bG _) ⟨af,af⟩)
structure CcB (c:Cx)(e:Ev)(n:aB)(St':aB->eI->Prop)(I N:eH)(v:bz)(r:aB)(W:aB->a8->Prop)(s₁:bH)(ρ₁:iV)(k:aB)(s':bH)(i:aB)(ρ':iV)(σ':a8)(m':ft->aJ bz):Prop where
 a:i<=n
 f:k=n+1-i
 g:iF s₁ s'
 h:c.P ρ₁ s₁.c ρ' s'.c
 j:c.S ρ' e σ' s'
 l:St' i s'.c
 m:s'.c.Ns N m'
 o:∀b∈[I,N],b∉iL ρ'
 p:c.V s'.c ρ' (.e r) v
 q:W i σ'
def CcI (c:Cx)(e:Ev)(n:aB)(f:aB->eI->Prop)(I N:eH)(v:bz)(r:aB)(W:aB->a8->Prop)(s₁:bH)(a:iV)(k:aB)(s':bH):Prop:=∃i d b g,CcB c e n f I N v r W s₁ a k s' i d b g
theorem Du (O:rq c T N mg mb) (CO:pY c C N.a (d+2) (u+10)) (hy:N.b k=ah y) (hky:scope.n.j y=ah .A) (hdy:(y==("__debug__" : ft))=aw)
  (hsrc:hM c T C d u src iter) (hfs:∀env x,iD iter env x=ij x) (hdx:(x==("__debug__" : ft))=aw)
  (hfree:∀z∈scope.n,z.2≠.free) (hcell:∀z∈scope.n,z.2≠.cell) (G:scope.mC=.L) (hnames:∀z∈scope.n,z.2=.F->scope.n.j z.1=ah .F) (hx:scope.n.j x=ah .F)
  (hplain:∀env,(iY pc (eB [.r x p2,.H (.O n) k3 p3] env)).any (·.1)=aw) :
  hM c T C d u (.J k n src) (.M (.Z (.r y p1) [.r x p2,.H (.O n) k3 p3] [] pc) [⟨.r x px,iter,[],0⟩] scope pos):=by
 intro A e σ s ρ Q X QC EC hA h S H HX;refine wpAny_ListComp hfree G hnames (hsrc A e σ s ρ _ X _ EC hA h S ?_ HX) (hfs _);intro v j ρ₁ a₁ p hs₁ P₁ S₁ r₁ h₁;obtain ⟨l,rfl,hcl,h₁⟩:=Be h₁;apply jI;intro q9;refine By (O.l k y hy hcl) λfa fo fd hf hg ha hd=>?_;refine oh r₁ λt a e90 e91 rs hz=>?_;subst e90;obtain ⟨nn,ht⟩:=e91;have hT:j.c.mD t a:=⟨_,ht,af,nn,af⟩;have hne:t≠j.c.q.k:=b5 (dU ht);apply pf hT;have W:=m7 (target:=.r x px) (oC (prog:=c.H) (w:=c.w) hA.b j.c.q.k t hne a) λi v s Q E st q=>CP st.1 q;have hl:=rs.ny;refine Ft (S₁.k (S₁.toSt.U (Kp.w5 _))) λacc B Y hs₃ V S₃ r₃=>(wpAny_newFunctionEnv hcell (λ_ h=>bZ h dm) (λh₄ hns hsb=>?_) G);have kp:Kp B.c h₄:=λb o D=>hsb.extBut b o (b5 (dU D)) (bE _ D);have S₄:c.S Y e (p++[.a []]) {B with heap:=h₄,toks:=B.D+([]:ao (ft×bz)).a}:=S₃.k (S₃.toSt.U kp);have fI:=S₁.n (kv j.c);have fN:=S₃.n (kv B.c);let aI:eH:=j.c.q.k;let aN:eH:=B.c.q.k;let lN:ao eH:=[aI,aN];have wf:∀b∈lN,¬ c.f.l b/\b∉c.F/\c.z.f b=aq:=λb f=>by
  rcases cz.g f with rfl|f
  ·exact fI.2
  ·exact aA (a6.g f) fN.2
 have nN1:j.c.f aN=aq:=((qo.D (Kp.w5 _)).A V).E.JJ (kv B.c);have hwr:∀b∈lN,j.c.f b=aq:=λb f=>by
  rcases cz.g f with rfl|f
  ·exact kv _
  ·exact aA (a6.g f) nN1
 have fr:∀{ρa ρb:iV} {ga gb:eI} {i:aB},c.P ρa ga ρb gb->aI∉iL ρa->(ga.IsTupleIter aI t i/\ga.mD t a)->gb.IsTupleIter aI t i/\gb.mD t a:=λP nI st=>W.frame _ _ _ st λb f o D=>by
  rcases cz.g f with rfl|f
  ·exact P.I _ o D nI (λq=>q) fI.2.2.1
  ·obtain ⟨o',eo',hc,n',hd'⟩:=st.2;have qa:=a6.g f;subst qa;obtain rfl:=aK (eo'.h.b D);exact P.B _ _ D (.C ⟨hc,_,_,hd'⟩)
 have hIN:aI≠aN:=λq=>by
  have:B.c.f aI=ah _:=V.I _ _ (bY j.c af) fI.1 (λq=>q) fI.2.2.1;exact ba (kv B.c) (q▸this)
 have nI3:aI∉iL Y:=λm=>by
  rcases V.H _ m with q|q
  ·exact fI.1 q
  ·exact ba q (bY j.c af)
 have st₂:(j.c.push {cls:=.v "tuple_iterator",data:=.T #[.t t,.O 0 0]}).IsTupleIter aI t 0/\(j.c.push {cls:=.v "tuple_iterator",data:=.T #[.t t,.O 0 0]}).mD t a:=⟨l4 _ (bY _ af) af af,hT.at λo e=>bE _ e⟩
 have st₄:=fr (qo.D kp) nI3 (fr V fI.1 st₂);have loop:oF c.M A (.compLoop (.M (.Z (.r y p1) [.r x p2,.H (.O n) k3 p3] [] pc) [⟨.r x px,iter,[],0⟩] scope pos) 0 (.t aI) acc (zz scope aN c.f.j)) (λr s'=>∃m,s'.c.Ns aN m/\∀h',gr aN s'.c h'->
      match r with|.ok _=>QC acc {s' with heap:=h'}|.error x=>bc c.M A (passOn "comprehension.variables-let-go" x (zz scope aN c.f.j)) QC EC {s' with heap:=h'}) {B with heap:=h₄,toks:=B.D+([]:ao (ft×bz)).a}:=by
  let I₀:=CcI c e a.k (λi h=>h.IsTupleIter aI t i/\h.mD t a) aI aN acc p.a (λi σ'=>Kw C k n p.a (l.m i) σ' (Q (.e p.a))) j ρ₁;refine Sg I₀ ?_ (a.k+1)
   ⟨0,Y,_,_,bG _,af,hs₃,((qo.D (Kp.w5 _)).A V).A (qo.D kp),S₄,st₄,hns,λb f=>?_,(qo.D (F:=c.F) (own:=wR) kp).s r₃,h₁⟩
  ·intro z₀ R₀ E₀;rintro k' s' ⟨i,ρ',σ',m',hi,rfl,hs',P',S',st',hn',nm',rv',h'⟩;have mI:aI∈lN:=dY;have mN:aN∈lN:=de _ dY;have ni:∀b∈lN,∀o,s'.c.f b=ah o->¬ uK o:=λb f o D=>by
    rcases cz.g f with rfl|f
    ·exact p8 i _ st' _ (a6.i af) o D
    ·obtain rfl:=a6.g f;exact pD hn' D
   have go:∀{g:eI} {tk:aB},(∀b o,b∉lN->s'.c.f b=ah o->g.f b=ah o)->s'.D<=tk->iF j {s' with heap:=g,toks:=tk}/\c.P ρ₁ j.c ρ' g/\c.S ρ' e σ' {s' with heap:=g,toks:=tk}/\c.V g ρ' (.e p.a) acc:=fun {g tk} up ht=>by
    refine fK (hs'.hJ (fK af af af ht)) (P'.S up hwr) ⟨S'.toSt.but up λb f=>lP (nm' b f) ((wf b f).1) ((wf b f).2.1) ((wf b f).2.2) (ni b f),aS S'.j ht,λt q=>S'.g t (ab ht q),S'.i⟩ rv'
   by_cases hlt:i<a.k
   ·have hil:=hl▸hlt;have h':=jQ hil▸h';apply jI;intro q9;refine fT (au _) (W.item i _ _ _ hlt st' λv h₅ Z hMd L hn₅=>?_);apply sE;intro s9;refine W.go i v _ _ _ hMd λh₆ hPv st₆ hk₆=>?_;have up:∀b o,b∉[aI]->s'.c.f b=ah o->h₆.f b=ah o:=λb o f D=>hk₆ b o f (L b o f D);apply sE;intro s9;apply jI;intro q9;refine jN (mA hx (hn'.at' λo D=>up _ o (λq=>hIN (a6.g q).h) D) (λh₇ hn₇ hs₇=>?_) (by simp [z₀,zz,G]));apply sE;intro s9;apply jI;intro q9;apply gl;intro g9;refine Bz (go (tk:=Z+1+1) (λb o f D=>(hs₇.2 b λq=>f (aA q mN)).b (up b o (λq=>f (aA (a6.g q) mI)) D)) (b7 (b7 hn₅))) λJ P₇ M I=>?_;have st₇:h₇.IsTupleIter aI t (i+1)/\h₇.mD t a:=W.frame _ _ _ st₆ λb f o D=>(hs₇.2 b λq=>by
     rcases cz.g f with f|f
     ·exact hIN (f.h.b q)
     ·exact ba nN1 ((q.h.b (a6.g f))▸ht)).b D
    refine bf (rs.Px (bV hil)) λv' hv' rvv=>?_;obtain rfl:=aK (hPv.h.b (dw dI hv'));apply J5;intro x9;refine aG (nt G hky (loadGlobal_global (O.g.keeps M.E) hg ?_) hdy);refine CC (by rw [hplain];rfl) (G2 ha hd) (mu (hplain _) ?_);refine ki (k0 (fV G hx hn₇ (c7 af) ?_) hdx);refine ki (wpAny_Constant_int (k:=k3) (pos:=p3) ?_);refine qx ⟨M.E,?_⟩;apply sE;intro s9;apply gl;intro g9;refine bf (CO k _ σ' _ _ h') λa' hf' run=>?_;rw [hf] at hf';injection hf' with hf';subst hf';refine EM (run A e _ ρ' [v,.O n _] _ hA.i M (jf _ _ af (P₇.s rvv) (.ZC gz)) ?_ λ_ _ _ _ _ _ _ _ q=>q.e);intro w s₉ ρ₉ a₉ σ₉ hs₉ P₉ S₉ r₉ q₉;refine l8 (lk q₉) λys hys hlid q₉=>?_;apply tO (Q:=λ_ σ''=>Kw C k n p.a (l.m (i+1)) σ'' (Q (.e p.a))) hys hlid q₉ S₉ (P₉.s I) r₉;intro w' s₀ ρ₀ a₀ σ₀ hs₀ P₀ S₀ r₀ q₀;have P70:c.P ρ' h₇ ρ₀ s₀.c:=P₉.A P₀;refine ⟨a.k+1-(i+1),tn (bb hlt) (cA i),i+1,ρ₀,σ₀,_,hlt,af,(J.hJ hs₉).hJ hs₀,P₇.A P70,S₀,fr P70 (nm' _ mI) st₇,hn₇.at' λo D=>P70.I _ o D (nm' _ mN) (λq=>q) fN.2.2.1,λb f m=>?_,P70.s I,q₀⟩;rcases P70.H b m with q|q
    ·exact nm' b f q
    ·rcases cz.g f with rfl|f
     ·obtain ⟨⟨o,D,_⟩,_⟩:=st₇;exact ba q D
     ·obtain rfl:=a6.g f;refine K2 hn₇ λo _ _ D _=>?_;exact ba q D
   ·have hin:=rt hi (iZ.g hlt);subst hin;rw [← hl,p6] at h';apply jI;intro q9;refine fT (au _) (W.done _ _ _ st' λh₅ Z L hn₅=>?_);refine bQ m' (hn'.at' λo D=>L _ o (λq=>hIN (a6.g q).h) D) (λh₆ hs₆=>?_);refine Bz (go (tk:=Z) (λb o f D=>(hs₆.2 b λq=>f (aA q mN)).b (L b o (λq=>f (aA (a6.g q) mI)) D)) hn₅) λJ P₇ M I=>?_;exact (H.qg hs₁ P₁) acc _ ρ' (.e p.a) σ' J P₇ M I h'
  ·rcases cz.g f with rfl|f
   ·exact nI3
   ·exact aA (a6.g f) fN.1
 exact codeAny_compStart_list loop ((oC hA.b aI t hne a).self 0 _ _ _ st₄ loop)
end
open PySem PySem.Calls PyProof.Rows PySem.SeqAt PySem.W
section
variable {c:Cx}{T:dt}{C:fk}{d u:aB}
theorem xW (f:c.S l w σ₀ a)(S:c.S ρ e σ s)(N:oY c.F a.c s.c v):c.S ρ e σ {s with heap:=v}:=by
 have p:=lF S.R;have h:=N.B p;have g:∀b o,s.c.f b=ah o->¬ (a.c.f b=aq/\∃o,s.c.f b=ah o/\(o.cls=.v "ValueError"\/o.cls=.v "traceback"))->(∃j,a.c.f b=ah j)\/(o.cls≠.v "ValueError"/\o.cls≠.v "traceback"):=λb o d u=>by
  cases q:a.c.f b with
  |some j=>exact .C ⟨j,af⟩
  |none=>
   refine .y ⟨λr=>u ⟨q,o,d,.C r⟩,λr=>u ⟨q,o,d,.y r⟩⟩
 have P:qo c.F (λb=>a.c.f b=aq/\∃o,s.c.f b=ah o/\(o.cls=.v "ValueError"\/o.cls=.v "traceback")) ρ s.c ρ v:=
  ⟨iV.g.d _,λz m=>.C m,N.r,h,λb o d z n p=>(N.p b o d (g b o d n)).1 p,λb o d z n=>(N.p b o d (g b o d n)).2⟩
 refine S.k (S.toSt.G9 P (λb q=>⟨(f.n q.1).2.1,(f.n q.1).2.2.1⟩) (λb o d=>?_) (S.K.L h λb o k d=>?_))
 ·have y:=f.E b o d;refine (N.p b o (S.E b o d) (.C ⟨o,y⟩)).1 λt=>?_;obtain ⟨k,_⟩:=S.Vy.mem t;exact ba k d
 ·refine bf (S.K.O k) λj i x=>?_;obtain rfl:=aK (i.h.b d);exact (N.p b _ i (.y x.2.2)).1 λt=>S.Jd b t k
def abJ (k:E)(x:fU):Prop:=(∃b c a,k=.A b/\x=.H (.bool b) c a)\/∃t c a,k=.h t/\x=.H (.str (dq t)) c a/\t.a<=gL
theorem T2 (NO:rq c T N mg mb) (V:gp c.f c.B) (hk:c.f.j.Q "ValueError"=ah .A) (hb:Je c T C d u b body) (hx:abJ k x) (hy:c.B[i]?=ah y) :
  wa c T C d u (.yv b i k) (.Try body [.ExceptHandler (ah (.r "ValueError" p1)) aq [.W [.r y p2] x p3] p4] [] [] p):=by
 intro A e σ s ρ Q X QC EC hA hE h S H HX;refine bf (hR h) λv hv h=>?_;refine wpAny_Try_except (hb A e σ s ρ Q _ _ _ hA PassesOwn.looking h S ?_ ?_)
 ·intro fl f' a g j f m r l Z t;have H:=H fl f' a g j f m r l Z t;cases f' with
  |next=>exact iC H
  |_=>exact H
 ·intro ex a g j f m r l W t;refine v5 (base:=c.z) hA.h l.Vy af r.E W λh₂ P N₂=>(qK (F:=c.F) (s:={a with heap:=h₂}) P λn G N₃=>?_);have N23:=N₂.t N₃;have D:c.S g j f {a with heap:=n}:=xW S l N23;refine wpAny_handleBy_builtin (X:="ValueError") (b:=ax) PySem.F.isExc_ValueError (by rw [isSubtype_type];kernel_rfl) PySem.F.self_ValueError ?_
  refine pF (s:={a with heap:=n}) D V ⟨hk,by decide⟩ NO.g NO.b (.y NO.m) (dX af (G.i.I λoe q=>q.e λvs q=>q.e λT q=>q.e λoT q=>q.e λts q=>⟨q.1.g,q.1.c⟩) ?_);simp only [vO];refine qK (s:={a with heap:=n}) (h₀:=s.c) (F:=c.F) G λz x₄ J=>?_;have o:c.S g j f {a with heap:=z}:=xW (s:={a with heap:=n}) S D J;have I:c.I ρ s.c g z:=J.u (lF D.R) (N23.u (lF l.R) r);have fin:∀{w:bz} {L:iV} {M:bH},c.S L j f M->iF s M->c.I ρ s.c L M.c->c.V M.c L v w->bc c.M (A.mark (ah (.t ex))) (storeName c.f.j y w) (λ_ M=>bc c.M (A.mark (ah (.t ex))) (execs [] c.f.j) QC (notedBy c.M (A.mark (ah (.t ex))) c.f.j (TK c.M A c.f.j EC)) M) (notedBy c.M (A.mark (ah (.t ex))) c.f.j (TK c.M A c.f.j EC)) M:=λS' hs' P' r'=>
   lL V S' hy r' λY O P₅ S₅=>iC (H .a .next Y _ _ f (hs'.hJ O) (P'.A P₅) S₅ af t)
  have B:iF s {a with heap:=z}:=m.hJ (fK af af af (au _));refine sE ?_;intro s9;refine J5 ?_;intro x9;refine iX ?_;refine gl ?_;intro g9;rcases hx with ⟨b,kk,pp,rfl,rfl⟩|⟨xx,kk,pp,rfl,rfl,hz⟩
  ·refine gl ?_;intro g9;obtain rfl:=aK hv;refine zv ?_ (by rfl);rw [xc];exact br (fin o B I jY)
  ·obtain rfl:=aK hv;refine zv (J3 ?_) (by rfl);exact fin (o.r xx) (B.hJ (fK af af af (bh _))) (I.A (qo.U xx (o.g a.D (au _)))) (KU _ af hz (dW o.j) (iV.j ..))
end
open PySem PySem.Calls PyProof.Rows PySem.SeqAt PySem.W
structure X0 (c:Cx)(T:dt)(C:fk)(N:Nm)(mg mb:ft->aJ bz)(d u:aB):Prop where
 O:oZ c
 a:rq c T N mg mb
 V:gp c.f c.B
 b:pY c C N.a (d+2) (u+10)
 e:u+100<uO
structure Tb where
 d:ao Tx
 c:ao Tx
 f:ao Tx
 b:ao eH
 e:ao bC
noncomputable def Tb.a (t:Tb):Nm where
 f:=λi=>(t.d[i]?).d dq
 b:=λi=>(t.c[i]?).d dq
 h:=λi=>(t.f[i]?).d dq
 a:=λi=>t.b[i]?
 g:=λi=>(t.e[i]?).l aw
theorem qE (s:ft):dq (zi s)=s:=by cases s;rfl
theorem v3 (h:kn a b=ax):a=b:=by refine dw (qE a) ?_;rw [gj.g h,qE]
theorem C1 (h:(!(kn a b))=ax):a≠b:=λq=>by
 rw [q,show kn b b=ax from gj.i af] at h;injection h
theorem v9 (h:(!(kn a b))=ax):(a==b)=aw:=dR.i (C1 h)
noncomputable def qn (o:aJ Tx)(s:ft):bC:=match o with
 |some y=>bT y (zi s)
 |none=>aw
theorem vd (h:qn o s=ax):o.d dq=ah s:=by
 cases o with
 |none=>injection h
 |some y=>exact aW ah (by refine aA (gj.g h) ?_;rw [qE])
theorem J6 {vars:ao Tx}{i:aB}(h:qn vars[i]? s=ax):(vars.d dq)[i]?=ah s:=aA cS (vd h)
theorem d5 (h:(a&&b)=ax):a=ax/\b=ax:=ae.g h
theorem tP {G:Prop}(h:(a&&b)=ax)(k:a=ax->b=ax->G):G:=k (d5 h).1 (d5 h).2
theorem Dy {G:Prop}(h:(a&&(b&&c))=ax)(k:a=ax->b=ax->c=ax->G):G:=tP (d5 h).2 (k (d5 h).1)
theorem Vt {G:Prop}(h:(a&&(b&&(c&&d)))=ax)(k:a=ax->b=ax->c=ax->d=ax->G):G:=Dy (d5 h).2 (k (d5 h).1)
theorem an5 {G:Prop}(h:(a&&(b&&(c&&(d&&e))))=ax)(k:a=ax->b=ax->c=ax->d=ax->e=ax->G):G:=Vt (d5 h).2 (k (d5 h).1)
theorem Vs {G:Prop}(h:(a&&(b&&(c&&(d&&(e&&f)))))=ax)(k:a=ax->b=ax->c=ax->d=ax->e=ax->f=ax->G):G:=an5 (d5 h).2 (k (d5 h).1)
theorem an7 {G:Prop}(h:(a&&(b&&(c&&(d&&(e&&(f&&g))))))=ax)(k:a=ax->b=ax->c=ax->d=ax->e=ax->f=ax->g=ax->G):G:=Vs (d5 h).2 (k (d5 h).1)
theorem an8 {G:Prop}(h:(a&&(b&&(c&&(d&&(e&&(f&&(g&&i)))))))=ax)(k:a=ax->b=ax->c=ax->d=ax->e=ax->f=ax->g=ax->i=ax->G):G:=an7 (d5 h).2 (k (d5 h).1)
theorem an9 {G:Prop}(h:(a&&(b&&(c&&(d&&(e&&(f&&(g&&(i&&j))))))))=ax)(k:a=ax->b=ax->c=ax->d=ax->e=ax->f=ax->g=ax->i=ax->j=ax->G):G:=an8 (d5 h).2 (k (d5 h).1)
theorem acR {G:Prop}(h:(a&&(b&&(c&&(d&&(e&&(f&&(g&&(i&&(j&&l)))))))))=ax)(k:a=ax->b=ax->c=ax->d=ax->e=ax->f=ax->g=ax->i=ax->j=ax->l=ax->G):G:=an9 (d5 h).2 (k (d5 h).1)
theorem acQ {G:Prop}(h:(a&&(b&&(c&&(d&&(e&&(f&&(g&&(i&&(j&&(l&&m))))))))))=ax)(k:a=ax->b=ax->c=ax->d=ax->e=ax->f=ax->g=ax->i=ax->j=ax->l=ax->m=ax->G):G:=acR (d5 h).2 (k (d5 h).1)
theorem acP {G:Prop}(h:(a&&(b&&(c&&(d&&(e&&(f&&(g&&(i&&(j&&(l&&(m&&n)))))))))))=ax)(k:a=ax->b=ax->c=ax->d=ax->e=ax->f=ax->g=ax->i=ax->j=ax->l=ax->m=ax->n=ax->G):G:=acQ (d5 h).2 (k (d5 h).1)
noncomputable def lkp (x:ft):ao (ft×rQ)->aJ rQ
 |[]=>aq
 |(n,k)::r=>kr (kn n x) (ah k) (lkp x r)
theorem Kx (x:ft):∀l:ao (ft×rQ),l.j x=lkp x l
 |[]=>af
 |(n,k)::r=>by
  refine aA iH (aA (Kx x r) ?_);show _=kr (kn n x) (ah k) (lkp x r);cases h:kn n x with
  |true=>obtain rfl:=v3 h;rw [kh];rfl
  |false=>exact dw (dR.i (gJ (C1 (by rw [h];rfl)))) af
noncomputable def Fy (x:ft)(l:ao (ft×rQ))(k:rQ):bC:=bg (lkp x l=ah k)
theorem nH (h:Fy x l k=ax):l.j x=ah k:=(Kx x l).b (aX h)
noncomputable def JN (x:fU):aB:=match x with
 |.H _ k _=>k
 |.X _ k _=>k
 |_=>0
noncomputable def OK (l:ao fU):ao (ft×Pos):=l.d λe=>(jP e,e.x)
noncomputable abbrev xX (x:fU):fU:=.r (jP x) x.x
section
variable (sc:uP)
noncomputable def xM (x:fU):uP:=match x with
 |.M _ _ s _=>s
 |.GeneratorExp _ _ s _=>s
 |_=>sc
mutual
noncomputable def jw:E->fU->fU
 |.y,x=>.H .s (JN x) x.x
 |.A b,x=>.H (.bool b) (JN x) x.x
 |.d i,x=>.H (.O i) (JN x) x.x
 |.h _,x=>.H (.str (jP x)) (JN x) x.x
 |.v _,x=>xX x
 |.g _,x=>xX x
 |.n e a b,x=>.BinOp (jw a (cW x 0)) (xS e) (jw b (cW x 1)) x.x
 |.M a,x=>.UnaryOp .USub (jw a (cW x 0)) x.x
 |.G a,x=>.UnaryOp .Not (jw a (cW x 0)) x.x
 |.q e a b,x=>.j4 (jw a (cW x 0)) [kU e] [jw b (cW x 1)] x.x
 |.N h g a b k,x=>.j4 (jw a (cW x 0)) [kU h,kU g] [jw b (cW x 1),jw k (cW x 2)] x.x
 |.B f,x=>.BoolOp .And (sF f (fY x)) x.x
 |.I f,x=>.BoolOp .Or (sF f (fY x)) x.x
 |.L q a b,x=>.IfExp (jw q (cW x 0)) (jw a (cW x 1)) (jw b (cW x 2)) x.x
 |.u _ d,x=>.Z (xX (cW x 0)) (sF d (fY x).R) [] x.x
 |.Q _ d,x=>.Z (xX (cW x 0)) (sF d (fY x).R) [] x.x
 |.w a _ d,x=>.Z (.E (jw a (cW (cW x 0) 0)) (jP (cW x 0)) (cW x 0).x) (sF d (fY x).R) [] x.x
 |.r _ d,x=>.Z (xX (cW x 0)) (sF d (fY x).R) [] x.x
 |.t a _ d,x=>.Z (.E (jw a (cW (cW x 0) 0)) (jP (cW x 0)) (cW x 0).x) (sF d (fY x).R) [] x.x
 |.D a _,x=>.E (jw a (cW x 0)) (jP x) x.x
 |.l a b,x=>.P (jw a (cW x 0)) (jw b (cW x 1)) x.x
 |.H a j l,x=>.P (jw a (cW x 0)) (.Slice (TX j (cW (cW x 1) 0)) (TX l (cW (cW x 1) 1)) aq (cW x 1).x) x.x
 |.p d,x=>.X (sF d (fY x)) (JN x) x.x
 |.z d,x=>.List (sF d (fY x)) x.x
 |.R,x=>.Dict [] [] x.x
 |.P _ _ c,x=>.M (xX (cW x 0)) [⟨.X (Oc (OK (fY (cW x 1)))) (JN (cW x 1)) (cW x 1).x,jw c (cW x 2),[],0⟩] (xM sc x) x.x
 |.K _ c,x=>.M (.X [.r (jP (cW x 1)) (cW (cW x 0) 0).x,xX (cW (cW x 0) 1)] (JN (cW x 0)) (cW x 0).x) [⟨xX (cW x 1),jw c (cW x 2),[],0⟩] (xM sc x) x.x
 |.O c,x=>.M (.r (jP (cW x 1)) (cW x 0).x) [⟨xX (cW x 1),jw c (cW x 2),[.j4 (.r (jP (cW x 1)) (cW (cW x 3) 0).x) [.NotEq] [.H (.str (dq [])) (JN (cW (cW x 3) 1)) (cW (cW x 3) 1).x] (cW x 3).x],0⟩] (xM sc x) x.x
 |.F c,x=>.M (.BinOp (.r (jP (cW x 1)) (cW (cW x 0) 0).x) .Mult (.r (jP (cW x 1)) (cW (cW x 0) 1).x) (cW x 0).x) [⟨xX (cW x 1),jw c (cW x 2),[],0⟩] (xM sc x) x.x
 |.J _ n c,x=>.M (.Z (xX (cW (cW x 0) 0)) [.r (jP (cW x 1)) (cW (cW x 0) 1).x,.H (.O n) (JN (cW (cW x 0) 2)) (cW (cW x 0) 2).x] [] (cW x 0).x) [⟨xX (cW x 1),jw c (cW x 2),[],0⟩] (xM sc x) x.x
noncomputable def sF:Es->ao fU->ao fU
 |.b,_=>[]
 |.a a c,b=>jw a (b.uI Zg)::sF c b.R
noncomputable def TX:Eo->fU->aJ fU
 |.f,_=>aq
 |.c a,x=>ah (jw a x)
end
theorem xe (a:E)(x:fU)(env:Ob)(rest:ao fU):eB (jw sc a x::rest) env=(aw,ji (jw sc a x) env)::eB rest env:=by cases a<;>rfl
theorem TZ (a:E)(x:fU)(o i:bz):subscripted (jw sc a x) aw o i=operate [o,i] (m5 o i):=by cases a<;>rfl
theorem tD (a:E)(x:fU)(b:CmpOp):qA b (jw sc a x)=aw:=by cases a<;>rfl
theorem Pk (a:E)(x:fU)(c d b:bz):augStore (jw sc a x) c d b=(do hO [b,c,d] (lX c d b);JW [b,c,d] [];ij .next):=by cases a<;>rfl
theorem x8 (a:E)(x:fU)(env:Ob)(v:bz):iD (jw sc a x) env v=ij v:=by cases a<;>rfl
noncomputable def kdE (a:E):aB:=match a with
 |.u ..=>1
 |.Q ..=>1
 |.r ..=>1
 |.P ..=>2
 |.K ..=>2
 |.O ..=>2
 |.F ..=>2
 |.J ..=>2
 |.p ..=>3
 |_=>0
noncomputable def u9 (a:E)(n:aB):bC:=!(aM (kdE a) n)
theorem BD (h:u9 a 1=ax)(x:fU)(y:ft)(env:Ob)(w:Sem bz):m6 (jw sc a x) y env w=w:=by cases a<;>first|rfl|exact (bJ h).e
theorem xH (h:u9 a 2=ax)(x:fU)(t:aJ fU)(l:aB)(env:Ob):lz (jw sc a x) t l env=ij aw:=by cases a<;>first|rfl|exact (bJ h).e
theorem OJ (h:u9 a 3=ax)(x:fU)(env:Ob):w8 [.X c k b] (jw sc a x) env=ij aq:=by cases a<;>first|rfl|exact (bJ h).e
end
open PySem PySem.Calls PyProof.Rows PySem.SeqAt PySem.W
section
variable (t:Tb)(vars:ao Tx)(sc:uP)
noncomputable def Ld (y:ft):bC:=Fy y sc.n .A&&!(kn y "__debug__")
theorem sk (h:Ld sc y):sc.n.j y=ah .A/\(y==("__debug__" : ft))=aw:=by
 have a:=d5 h;exact ⟨nH a.1,v9 a.2⟩
noncomputable def U4 (y:ft):ao Tx->bC
 |[]=>aw
 |v::r=>bT v (zi y)||U4 y r
theorem U3:∀{l:ao Tx},U4 y l->y∈l.d dq:=by
 intro b
 induction b with
 |nil=>
  intro h;injection h
 |cons v r a=>
  intro h;rcases aZ.g h with h|h
  ·exact aA (gj.g h) (cz.i (.C (qE y).h))
  ·exact de _ (a h)
noncomputable def chZ (scope:uP)(z:ft×rQ):bC:=match z.2 with
 |.cell=>aw
 |.F=>Fy z.1 scope.n .F
 |.free=>U4 z.1 vars&&Fy z.1 sc.n .cell
 |_=>ax
noncomputable def Yd (scope:uP):bC:=bg (scope.mC=.L)&&scope.n.oG (chZ vars sc scope)
structure SOk (scope:uP):Prop where
 b:scope.mC=.L
 a:∀z∈scope.n,z.2≠.cell
 e:∀z∈scope.n,z.2=.F->scope.n.j z.1=ah .F
 f:∀z∈scope.n,z.2=.free->z.1∈vars.d dq/\sc.n.j z.1=ah .cell
theorem Dw (h:Yd vars sc scope):SOk vars sc scope:=by
 refine tP h λe d=>?_;have a:=dz.g d;refine ⟨aX e,λz b q=>?_,λz b q=>?_,λz b q=>?_⟩
 ·have k:=a z b;unfold chZ at k;have k:=q▸k;injection k
 ·have k:=a z b;unfold chZ at k;have k:=q▸k;exact nH k
 ·have k:=a z b;unfold chZ at k;have k:=q▸k;have c:=d5 k;exact ⟨U3 c.1,nH c.2⟩
mutual
noncomputable def kR:E->fU->bC
 |.y,_=>ax
 |.A _,_=>ax
 |.d _,_=>ax
 |.h s,x=>bT s (zi (jP x))&&bM s.a 1000
 |.v i,x=>qn vars[i]? (jP x)
 |.g i,x=>qn t.d[i]? (jP x)&&Ld sc (jP x)
 |.n _ a b,x=>kR a (cW x 0)&&kR b (cW x 1)
 |.M a,x=>kR a (cW x 0)
 |.G a,x=>kR a (cW x 0)
 |.q _ a b,x=>kR a (cW x 0)&&kR b (cW x 1)
 |.N _ _ a b k,x=>kR a (cW x 0)&&(kR b (cW x 1)&&kR k (cW x 2))
 |.B e,x=>xU e (fY x)
 |.I e,x=>xU e (fY x)
 |.L q a b,x=>kR q (cW x 0)&&(kR a (cW x 1)&&kR b (cW x 2))
 |.u k d,x=>qn t.c[k]? (jP (cW x 0))&&(t.a.g k&&(Ld sc (jP (cW x 0))&&xU d (fY x).R))
 |.Q i d,x=>qn t.f[i]? (jP (cW x 0))&&(Ld sc (jP (cW x 0))&&xU d (fY x).R)
 |.w a k d,x=>qn t.c[k]? (jP (cW x 0))&&(kR a (cW (cW x 0) 0)&&(u9 a 1&&(((cW x 0).x.endLine==x.x.line)&&(cL (sF sc d (fY x).R).a 30&&xU d (fY x).R))))
 |.r b d,x=>kn (jP (cW x 0)) (qM b)&&(Ld sc (jP (cW x 0))&&xU d (fY x).R)
 |.t a m d,x=>kn (jP (cW x 0)) (yq m)&&(kR a (cW (cW x 0) 0)&&(u9 a 1&&(((cW x 0).x.endLine==x.x.line)&&(cL (sF sc d (fY x).R).a 30&&xU d (fY x).R))))
 |.D a z,x=>kn (jP x) (cN z)&&(kR a (cW x 0)&&u9 a 1)
 |.l a b,x=>kR a (cW x 0)&&kR b (cW x 1)
 |.H a g h,x=>kR a (cW x 0)&&(Ue g (cW (cW x 1) 0)&&Ue h (cW (cW x 1) 1))
 |.p d,x=>xU d (fY x)
 |.z d,x=>xU d (fY x)
 |.R,_=>ax
 |.P m j c,x=>kR c (cW x 2)&&(bg ((OK (fY (cW x 1))).a=m)&&(bg (((OK (fY (cW x 1))).d (·.1))[j]?=ah (jP (cW x 0)))&&(bg ((OK (fY (cW x 1))).d (·.1)).kl&&(!(kn (jP (cW x 0)) "__debug__") &&
   ((xM sc x).n.oG (λz=>bg (z.2≠.free))&&(Yd vars sc (xM sc x)&&(OK (fY (cW x 1))).oG λp=>Fy p.1 (xM sc x).n .F))))))
 |.K f c,x=>kR c (cW x 2)&&(qn vars[f]? (jP (cW (cW x 0) 1))&&(Fy (jP (cW (cW x 0) 1)) sc.n .cell&&(!(kn (jP (cW x 1)) "__debug__")&&(Yd vars sc (xM sc x)&&(Fy (jP (cW x 1)) (xM sc x).n .F&&Fy (jP (cW (cW x 0) 1)) (xM sc x).n .free)))))
 |.O c,x=>kR c (cW x 2)&&(!(kn (jP (cW x 1)) "__debug__")&&((xM sc x).n.oG (λz=>bg (z.2≠.free))&&(Yd vars sc (xM sc x)&&Fy (jP (cW x 1)) (xM sc x).n .F)))
 |.F _,_=>aw
 |.J k _ c,x=>kR c (cW x 2)&&(qn t.c[k]? (jP (cW (cW x 0) 0))&&(Ld (xM sc x) (jP (cW (cW x 0) 0))&&(!(kn (jP (cW x 1)) "__debug__")&&((xM sc x).n.oG (λz=>bg (z.2≠.free))&&(Yd vars sc (xM sc x)&&Fy (jP (cW x 1)) (xM sc x).n .F)))))
noncomputable def xU:Es->ao fU->bC
 |.b,_=>ax
 |.a a c,b=>kR a (b.uI Zg)&&xU c b.R
noncomputable def Ue:Eo->fU->bC
 |.f,_=>ax
 |.c a,x=>kR a x
end
end
section
variable {c:Cx}{T:dt}{C:fk}{mg mb:ft->aJ bz}{d u:aB}{t:Tb}{vars:ao Tx}
theorem oI (env):∀c xs,(iY p (eB (sF sc c xs) env)).any (·.1)=aw
 |.b,_=>af
 |.a a b,xs=>by
  show (iY p (eB (jw sc a (xs.uI Zg)::sF sc b xs.R) env)).any (·.1)=aw;rw [xe];exact oI env b xs.R
theorem ym (h:hM c T C d u b x)(e:∀env a,TJ x env a=(do let v ← a;m4 x.x;hO [v] (TG v))):hM c T C d u b x/\zT c T C d u b x:=⟨h,Oy h e⟩
theorem Km (V:gp c.f c.B)(d:c.B=vars.d dq)(h:SOk vars c.f.k scope):∀z∈scope.n,z.2=.free->∃a,c.f.n.j z.1=ah a:=λz b e=>by
 apply gl;intro j;obtain ⟨i,g⟩:=h.f z b e;rcases V.g z.1 (aA d i) with q|⟨_,a,f⟩
 ·cases aK ((g:c.f.j.Q z.1=_).h.b q)
 ·exact ⟨a,f⟩
theorem TS (B:zT c T C d u q x)(F:zT c T C d u a y)(D:zT c T C d u b z):zT c T C d u (.L q a b) (.IfExp x y z p):=by
 intro A e v s w Q X t m k h S H l;refine aG (B A e v s w _ X _ m k h S ?_ l);intro r n g f j P o i;apply gl;intro G;rcases tJ i with ⟨rfl,i⟩|⟨rfl,i⟩
 ·exact bQ _ af (F A e f n g Q X t m k i o (H.Oi j P) (l.tj j P))
 ·exact bQ _ af (D A e f n g Q X t m k i o (H.Oi j P) (l.tj j P))
structure EsX (c:Cx)(T:dt)(C:fk)(d u:aB)(es:Es)(xs:ao fU):Prop where
 a:w6 c T C d u es xs
 b:RZ c T C d u es xs
 f:RX c T C d u es xs
 e:R0 c T C d u es xs
 g:RY c T C d u es xs
set_option tactic.hygienic true in
theorem K6 (F:X0 c T C t.a mg mb d u)(hv:c.B=vars.d dq)(L:E):∀x,kR t vars c.f.k L x->hM c T C d u L (jw c.f.k L x)/\zT c T C d u L (jw c.f.k L x):=by
 have N:∀{i:aB} {s:ft},qn vars[i]? s->c.B[i]?=ah s:=λh=>aA hv (J6 h)
 induction L using E.rec (motive_2:=λZ=>∀xs,xU t vars c.f.k Z xs->EsX c T C d u Z (sF c.f.k Z xs))
  (motive_3:=λeo=>∀x,Ue t vars c.f.k eo x->N9 c T C d u eo (TX c.f.k eo x)) with
 |y=>exact λx h=>ym O7 λ_ _=>af
 |A b=>exact λx h=>ym Pe λ_ _=>af
 |d i=>exact λx h=>ym Vf λ_ _=>af
 |h s=>
  intro x h;refine tP h λl n=>?_;exact ym (Va (by refine aA (gj.g l) ?_;rw [qE]) (ab (aa n) (aF 1000 999000))) λ_ _=>af
 |v i=>exact λx h=>ym (acK F.V (N h)) λ_ _=>af
 |g i=>
  intro x h;refine tP h λl n=>?_;exact ym (acL F.a F.V (vd l) (sk _ n)) λ_ _=>af
 |n op a b e w=>
  intro x h;refine tP h λl n=>?_;exact ym (Vi (e _ l).1 (w _ n).1) λ_ _=>af
 |M a e=>exact λx h=>ym (Vd (e _ h).1) λ_ _=>af
 |G a e=>exact λx h=>⟨Vb (e _ h).1,TR (e _ h).2⟩
 |q op a b e w=>
  intro x h;refine tP h λl n=>?_;exact ⟨Vh F.e F.O (e _ l).1 (w _ n).1 (tD ..),TU F.e F.O (e _ l).1 (w _ n).1 (tD ..)⟩
 |N o1 o2 a b k e w P=>
  intro x h;refine Dy h λl n r=>?_;exact ⟨Pa F.e F.O (e _ l).1 (w _ n).1 (P _ r).1 (tD ..),Oz F.e F.O (e _ l).1 (w _ n).1 (P _ r).1 (tD ..)⟩
 |B Z o=>exact λx h=>⟨λA=>(o _ h).e A _,(o _ h).b⟩
 |I Z o=>exact λx h=>⟨λA=>(o _ h).g A _,(o _ h).f⟩
 |L q a b O e w=>
  intro x h;refine Dy h λl n r=>?_;exact ⟨Ve (O _ l).2 (e _ n).1 (w _ r).1,TS (O _ l).2 (e _ n).2 (w _ r).2⟩
 |u k G o=>
  intro x h;apply gl;intro Y;refine Vt h λl n r D=>?_;exact ym (Pb F.a F.V F.b (vd l) (sk _ r) (o _ D).a (λB=>oI B ..) (F.a.r k n)) λ_ _=>af
 |Q i G o=>
  intro x h;apply gl;intro Y;refine Dy h λl r D=>?_;exact ym (Vc F.O F.a F.V F.b (vd l) (sk _ r) (o _ D).a (λB=>oI B ..)) λ_ _=>af
 |w a k G e o=>
  intro x h;refine Vs h λl n r D H X=>?_;exact ym (O8 F.O F.a F.b (vd l) (e _ n).1 (BD _ r ..) D (aa H) (o _ X).a (λB=>oI B ..)) λ_ _=>af
 |r b G o=>
  intro x h;refine Dy h λl r D=>?_;have l:=v3 l;show hM c T C d u (.r b G) (.Z (xX (cW x 0)) _ [] x.x)/\zT c T C d u (.r b G) (.Z (xX (cW x 0)) _ [] x.x);unfold xX;rw [l] at r ⊢;exact ym (Zd F.a F.V (sk _ r) (o _ D).a (λB=>oI B ..)) λ_ _=>af
 |t a m G e o=>
  intro x h;refine Vs h λl n r D H X=>?_;have l:=v3 l;show hM c T C d u (.t a m G) (.Z (.E _ (jP (cW x 0)) _) _ [] x.x)/\zT c T C d u (.t a m G) (.Z (.E _ (jP (cW x 0)) _) _ [] x.x);exact l▸ym (Zc (e _ n).1 (BD _ r ..) D (aa H) (o _ X).a (λB=>oI B ..)) λ_ _=>af
 |D a y e=>
  intro x h;refine Dy h λl n r=>?_;have l:=v3 l;show hM c T C d u (.D a y) (.E _ (jP x) x.x)/\zT c T C d u (.D a y) (.E _ (jP x) x.x);exact l▸ym (Pf F.O (e _ n).1 (BD _ r ..)) λ_ _=>af
 |l a b e w=>
  intro x h;refine tP h λl n=>?_;exact ym (Vg (e _ l).1 (w _ n).1 (TZ _ _ _)) λ_ _=>af
 |H a lo hi e ihl ihh=>
  intro x h;refine Dy h λl n r=>?_;exact ym (K5 (e _ l).1 (ihl _ n) (ihh _ r)) λ_ _=>af
 |p G o=>exact λx h=>ym (K4 (o _ h).a) λ_ _=>af
 |z G o=>exact λx h=>ym (O9 (o _ h).a) λ_ _=>af
 |R=>exact λx h=>ym K7 λ_ _=>af
 |P m j J o=>
  intro x h;apply gl;intro Y;refine an8 h λl n r D H X h7 h8=>?_;have s:=Dw _ _ h7;exact ym (FF (o _ l).1 (x8 _ _ _) (aX n) (aX r) (aX D) (v9 H) (λz V=>aX (dz.g X z V)) s.a s.b s.e λp hp=>nH (dz.g h8 p hp)) λ_ _=>af
 |K cap J o=>
  intro x h;apply gl;intro Y;refine Vs h λl n r D H h=>?_;have W:=d5 h;have s:=Dw _ _ H;exact ym (Dt F.V (o _ l).1 (x8 _ _ _) (N n) (nH r) (v9 D) (Km F.V hv s) s.a s.b s.e (nH W.1) (nH W.2)) λ_ _=>af
 |O J o=>
  intro x h;apply gl;intro Y;refine an5 h λl n r D H=>?_;have s:=Dw _ _ D;exact ym (IS (o _ l).1 (x8 _ _ _) (v9 n) (λz V=>aX (dz.g r z V)) s.a s.b s.e (nH H)) λ_ _=>af
 |F J o=>exact λx h=>(bJ h).e
 |J f k J o=>
  intro x h;apply gl;intro Y;refine an7 h λl g1 g2 n r D H=>?_;have s:=Dw _ _ D;have g2:=sk _ g2;exact ym (Du F.a F.b (vd g1) g2.1 g2.2 (o _ l).1 (x8 _ _ _) (v9 n) (λz V=>aX (dz.g r z V)) s.a s.b s.e (nH H) λ_=>af) λ_ _=>af
 |b=>
  exact ⟨O5,λ_ _ _ _ _ _ _ _ _ _ h=>h.e,λ_ _ _ _ _ _ _ _ _ _ h=>h.e,λ_ _ _ _ _ _ _ _ _ _ _ h=>h.e,λ_ _ _ _ _ _ _ _ _ _ _ h=>h.e⟩
 |a a G e o=>
  rename_i xs h
  refine tP h λl n=>?_;have I:=e _ l;have M:=o _ n;cases G with
  |b=>exact ⟨Ds I.1 M.a (xe _ _ _),Pn I.2,Pl I.2,Lq I.1,Ln I.1⟩
  |a b G=>exact ⟨Ds I.1 M.a (xe _ _ _),Lp I.2 M.b,Lm I.2 M.f,Jb I.1 M.e,Ja I.1 M.g⟩
 |f=>exact U8
 |c a e=>rename_i x h;exact O6 (e _ h).1
end
open PySem PySem.Calls PyProof.Rows PySem.SeqAt PySem.W
section
variable (sc:uP)
noncomputable abbrev tuX (x:fU):fU:=.X (Oc (OK (fY x))) (JN x) x.x
noncomputable def tlE (x:fU) (g:fU):fU:=.j4 (.Z (.r "type" (cW (cW g 0) 0).x) [.r (jP x) (cW (cW g 0) 1).x] [] (cW g 0).x) [.Is] [.r "int" (cW g 1).x] g.x
noncomputable def tlG (a:E)(g:fU):fU:=.GeneratorExp (tlE (cW g 1) (cW g 0)) [⟨xX (cW g 1),jw sc a (cW g 2),[],0⟩] (xM sc g) g.x
noncomputable def tlA (b:E) (a:fU):fU:=.Z (.r "all" (cW a 0).x) [tlG sc b (cW a 1)] [] a.x
noncomputable def tlS (q a:E)(b:fU):fU:=.BoolOp .And [jw sc q (cW b 0),.UnaryOp .Not (tlA sc a (cW (cW b 1) 0)) (cW b 1).x] b.x
noncomputable def Sk (a:E):bC:=match a with
 |.n ..=>ax
 |_=>aw
noncomputable def gnB (z:uP) (x:ft):bC:=bg (z.mC=.L)&&(!z.isCoroutine&&(z.n.oG (λy=>bg (y.2≠.free)&&bg (y.2≠.cell))&&(Fy ".0" z.n .F&&(Fy x z.n .F&&(Ld z "type"&&(Ld z "int"&&!(kn x "__debug__")))))))
mutual
noncomputable def toS:S->mJ->mJ
 |.oM a,x=>.Expr (jw sc a (kx x 0)) x.x
 |.rA _ a,x=>.W [xX (kx x 1)] (jw sc a (kx x 0)) x.x
 |.FK _ a,x=>.W [tuX (kx x 1)] (jw sc a (kx x 0)) x.x
 |.rz o _ a,x=>.W [.E (jw sc o (cW (kx x 1) 0)) (jP (kx x 1)) (kx x 1).x] (jw sc a (kx x 0)) x.x
 |.yw o i a,x=>.W [.P (jw sc o (cW (kx x 1) 0)) (jw sc i (cW (kx x 1) 1)) (kx x 1).x] (jw sc a (kx x 0)) x.x
 |.qN o e f a,x=>.W [.P (jw sc o (cW (kx x 1) 0)) (.Slice (ah (jw sc e (cW (cW (kx x 1) 1) 0))) (ah (jw sc f (cW (cW (kx x 1) 1) 1))) aq (cW (kx x 1) 1).x) (kx x 1).x] (jw sc a (kx x 0)) x.x
 |.Sw _ d a,x=>.km (xX (kx x 1)) (xS d) (jw sc a (kx x 0)) x.x
 |.rC o _ d a,x=>.km (.E (jw sc o (cW (kx x 1) 0)) (jP (kx x 1)) (kx x 1).x) (xS d) (jw sc a (kx x 0)) x.x
 |.yx o i d a,x=>.km (.P (jw sc o (cW (kx x 1) 0)) (jw sc i (cW (kx x 1) 1)) (kx x 1).x) (xS d) (jw sc a (kx x 0)) x.x
 |.tQ o e,x=>.Delete [.P (jw sc o (cW (kx x 0) 0)) (.Slice (ah (jw sc e (cW (cW (kx x 0) 1) 0))) aq aq (cW (kx x 0) 1).x) (kx x 0).x] x.x
 |.vj q a b,x=>.If (jw sc q (kx x 0)) (rV a (bS x)) (rV b (eS x)) x.x
 |.Lu q b,x=>.While (jw sc q (kx x 0)) (rV b (bS x)) [] x.x
 |.DC _ c b,x=>.For (xX (kx x 1)) (jw sc c (kx x 0)) (rV b (bS x)) [] x.x
 |.FL _ c b,x=>.For (tuX (kx x 1)) (jw sc c (kx x 0)) (rV b (bS x)) [] x.x
 |.CF a,x=>.Return (ah (jw sc a (kx x 0))) x.x
 |.wb a,x=>.Raise (ah (.Z (.r "ValueError" (cW (kx x 0) 0).x) [jw sc a (cW (kx x 0) 1)] [] (kx x 0).x)) aq x.x
 |.Pu,x=>.Break x.x
 |.FN,x=>.Continue x.x
 |.yv b _ k,x=>.Try (rV b (bS x)) [.ExceptHandler (ah (.r "ValueError" (kx x 0).x)) aq [.W [xX (kx (JO (eS x)) 1)] (jw sc k (kx (JO (eS x)) 0)) (JO (eS x)).x] (hP x)] [] [] x.x
 |.Pt q c,x=>.If (tlS sc q c (kx x 0)) (bS x) [] x.x
noncomputable def rV:Ss->ao mJ->ao mJ
 |.b,_=>[]
 |.a a c,b=>toS a (JO b)::rV c b.R
end
variable (t:Tb)(vars:ao Tx)
noncomputable def Lc (vars:ao Tx):ao aB->ao (ft×Pos)->bC
 |[],[]=>ax
 |i::b,p::a=>qn vars[i]? p.1&&Lc vars b a
 |_,_=>aw
noncomputable def Sj (k:E):bC:=match k with
 |.A _=>ax
 |.h _=>ax
 |_=>aw
noncomputable def YM (l:ao aB)(P:aB->aB->bC):bC:=match l with
 |[i,j]=>P i j
 |_=>aw
noncomputable def two (l:ao fU)(P:fU->fU->bC):bC:=match l with
 |[y,z]=>P y z
 |_=>aw
noncomputable def jO {a:Type}(o:aJ a)(P:a->bC):bC:=match o with
 |some x=>P x
 |none=>aw
noncomputable def Uc (m:Sem b):aJ b:=match m with
 |.pure a=>ah a
 |_=>aq
noncomputable def acM (y z:fU)(k:aB)(a:Pos)(v:fU)(i j:aB):bC:=jO (Uc (w8 [.X [xX y,xX z] k a] v ⟨sc,0,0,[],Str.empty,aq,.s,aq,0⟩)) λo=>jO o λl=>bg (l=[jP y,jP z])&&(!(aM i j)&&(qn vars[i]? (jP y)&&qn vars[j]? (jP z)))
noncomputable def sqE (a:E)(P:E->bC):bC:=match a with
 |.F s=>P s
 |_=>aw
noncomputable def sqB (a:E) (x:mJ):bC:=sqE a λc=>kR t vars sc c (cW (kx x 0) 2)&&(!(kn (jP (cW (kx x 0) 1)) "__debug__")&&((xM sc (kx x 0)).n.oG (λz=>bg (z.2≠.free))&&(Yd vars sc (xM sc (kx x 0))&&(Fy (jP (cW (kx x 0) 1)) (xM sc (kx x 0)).n .F &&
 jO (Uc (lz (jw sc a (kx x 0)) (ah (xX (kx x 1))) x.x.line ⟨sc,0,0,[],Str.empty,aq,.s,aq,0⟩)) λb=>b))))
mutual
noncomputable def okS:S->mJ->bC
 |.oM a,x=>kR t vars sc a (kx x 0)&&u9 a 2
 |.rA i a,x=>qn vars[i]? (jP (kx x 1))&&((kR t vars sc a (kx x 0)&&u9 a 2)||sqB sc t vars a x)
 |.FK d a,x=>kR t vars sc a (kx x 0)&&(u9 a 2&&((u9 a 3&&Lc vars d (OK (fY (kx x 1))))||(aM (kdE a) 3&&two (fY (kx x 1)) λy z=>YM d (acM sc vars y z (JN (kx x 1)) (kx x 1).x (jw sc a (kx x 0))))))
 |.rz o z a,x=>kR t vars sc a (kx x 0)&&(u9 a 2&&(kR t vars sc o (cW (kx x 1) 0)&&kn (jP (kx x 1)) (cN z)))
 |.yw o i a,x=>kR t vars sc a (kx x 0)&&(u9 a 2&&(kR t vars sc o (cW (kx x 1) 0)&&kR t vars sc i (cW (kx x 1) 1)))
 |.qN o e f a,x=>kR t vars sc a (kx x 0)&&(u9 a 2&&(kR t vars sc o (cW (kx x 1) 0)&&(kR t vars sc e (cW (cW (kx x 1) 1) 0)&&kR t vars sc f (cW (cW (kx x 1) 1) 1))))
 |.Sw i _ a,x=>kR t vars sc a (kx x 0)&&qn vars[i]? (jP (kx x 1))
 |.rC o z _ a,x=>kR t vars sc a (kx x 0)&&(kR t vars sc o (cW (kx x 1) 0)&&kn (jP (kx x 1)) (cN z))
 |.yx o i _ a,x=>kR t vars sc a (kx x 0)&&(kR t vars sc o (cW (kx x 1) 0)&&kR t vars sc i (cW (kx x 1) 1))
 |.tQ o e,x=>kR t vars sc o (cW (kx x 0) 0)&&kR t vars sc e (cW (cW (kx x 0) 1) 0)
 |.vj q a b,x=>kR t vars sc q (kx x 0)&&(sI a (bS x)&&sI b (eS x))
 |.Lu q b,x=>kR t vars sc q (kx x 0)&&sI b (bS x)
 |.DC i c b,x=>kR t vars sc c (kx x 0)&&(qn vars[i]? (jP (kx x 1))&&sI b (bS x))
 |.FL d c b,x=>kR t vars sc c (kx x 0)&&(Lc vars d (OK (fY (kx x 1)))&&sI b (bS x))
 |.CF a,x=>kR t vars sc a (kx x 0)
 |.wb a,x=>Ld sc "ValueError"&&kR t vars sc a (cW (kx x 0) 1)
 |.Pu,_=>ax
 |.FN,_=>ax
 |.yv b i k,x=>Ld sc "ValueError"&&(sI b (bS x)&&(kR t vars sc k (kx (JO (eS x)) 0)&&(Sj k&&qn vars[i]? (jP (kx (JO (eS x)) 1)))))
 |.Pt q c,x=>kR t vars sc q (cW (kx x 0) 0)&&(Sk c&&(kR t vars sc c (cW (cW (cW (cW (kx x 0) 1) 0) 1) 2)&&(Ld sc "all"&&gnB (xM sc (cW (cW (cW (kx x 0) 1) 0) 1)) (jP (cW (cW (cW (cW (kx x 0) 1) 0) 1) 1)))))
noncomputable def sI:Ss->ao mJ->bC
 |.b,_=>ax
 |.a a c,b=>okS a (JO b)&&sI c b.R
end
end
theorem Ud (h:YM l P):∃i j,l=[i,j]/\P i j:=by
 apply gl;intro c;cases l with
 |nil=>injection h
 |cons a l=>
 cases l with
 |nil=>injection h
 |cons b l=>
 cases l with
 |nil=>exact fF _ _ af h
 |cons _ _=>injection h
theorem Yx (h:two l P):∃i j,l=[i,j]/\P i j:=by
 apply gl;intro c;cases l with
 |nil=>injection h
 |cons a l=>
 cases l with
 |nil=>injection h
 |cons b l=>
 cases l with
 |nil=>exact fF _ _ af h
 |cons _ _=>injection h
theorem Yy (h:aM (kdE a) 3):∃as,a=.p as:=by
 apply gl;intro b;cases a<;>first|exact ⟨_,af⟩|exact (bJ h).e
theorem Zi (h:Sj a)(d:kR t vars sc a x):abJ a (jw sc a x):=by
 cases a with
 |A b=>exact .C (FC b _ _ af af)
 |h s=>
  have c:=d5 d;refine .y (KS s (JN x) x.x af ?_ (ab (aa c.2) (aF 1000 999000)));show Expr.Constant (.str (jP x)) _ _=_;refine aA (gj.g c.1) ?_;rw [qE]
 |_=>exact (bJ h).e
theorem Vn (h:Lc vars a xs):a.a=xs.a/\∀(j:aB) i x,a[j]?=ah i->xs[j]?=ah x->(vars.d dq)[i]?=ah x.1:=by
 induction a generalizing xs with
 |nil=>
  cases xs with
  |nil=>exact ⟨af,λz z z h=>ba eh h⟩
  |cons _ _=>injection h
 |cons i a d=>
  cases xs with
  |nil=>injection h
  |cons p f=>
   have h:=d5 h;have g:=d h.2;refine ⟨aW ix g.1,λj e x c b=>?_⟩;cases j with
   |zero=>obtain rfl:=aK c;obtain rfl:=aK b;exact J6 h.1
   |succ j=>exact g.2 j e x c b
theorem dP {a:Type}{o:aJ a}{P:a->bC}(h:jO o P):∃x,o=ah x/\P x:=by
 cases o with
 |none=>injection h
 |some x=>exact bQ x af h
theorem YF (h:sqE a P):∃s,a=.F s/\P s:=by
 apply gl;intro b;cases a with
 |F s=>exact bQ s af h
 |_=>exact (bJ h).e
theorem Ks (h:Uc m=ah a):m=ij a:=by
 apply gl;intro c;cases m with
 |pure b=>obtain rfl:=aK h;rfl
 |_=>exact ba af h
section
variable {c:Cx}{T:dt}{C:fk}{mg mb:ft->aJ bz}{d u:aB}{t:Tb}{vars:ao Tx}
set_option tactic.hygienic true in
theorem Kh (F:X0 c T C t.a mg mb d u)(Z:c.B=vars.d dq)(P):∀x,okS c.f.k t vars P x->wa c T C d u P (toS c.f.k P x):=by
 have n:=λa x h=>K6 F Z a x h;have v:∀{i:aB} {s:ft},qn vars[i]? s->c.B[i]?=ah s:=λh=>aA Z (J6 h);have I:∀{J:ao aB} {D:ao (ft×Pos)},Lc vars J D->J.a=D.a/\∀j i (x:ft×Pos),J[j]?=ah i->D[j]?=ah x->c.B[i]?=ah x.1:=λh=>aA Z (Vn h)
 induction P using S.rec (motive_2:=λW=>∀D,sI c.f.k t vars W D->Je c T C d u W (rV c.f.k W D)) with
 |oM a=>
  intro x h;refine tP h λf m=>?_;exact OC F.V (n _ _ f).1 (xH _ m _)
 |rA i a=>
  intro x h;apply gl;intro g9;refine tP h λp h=>?_;rcases aZ.g h with h|h
  ·refine tP h λf m=>?_;exact T3 F.V (n _ _ f).1 (xH _ m _) (v p)
  ·refine bf (YF h) λG H h=>?_;subst H;refine Vs h λf m w M h6 h=>?_;refine bf (dP h) λb g h=>?_;have s:=Dw _ _ M;rw [show b=ax from h] at g;exact Kf F.V (n _ _ f).1 (x8 _ _ _) (v9 m) (λz hz=>aX (dz.g w z hz)) s.a s.b s.e (nH h6) (v p) (Ks g)
 |FK J a=>
  intro x h;apply gl;intro g9;refine Dy h λf m h=>?_;rcases aZ.g h with h|h
  ·refine tP h λp w=>?_;obtain ⟨O,N⟩:=I w;exact OB F.V (n _ _ f).1 (xH _ m _) O N (OJ _ p _ _)
  ·refine tP h λp h=>?_;obtain ⟨V,rfl⟩:=Yy p;refine l6 (Yx h) λy z e1 h=>?_;refine l6 (Ud h) λi j H h=>?_;subst H;refine bf (dP h) λo O h=>?_;refine bf (dP h) λl N h=>?_;refine Dy h λg3 g4 h=>?_;have L:=d5 h;show wa c T C d u (.FK [i,j] (.p V)) (.W [.X (Oc (OK (fY (kx x 1)))) _ _] _ _);refine aA e1 ?_;refine Ke F.V (n _ _ f).1 (xH _ m _) (λq=>?_) (v L.1) (v L.2) ?_
   ·rw [q,gU] at g4;injection g4
   ·have g:=Ks O;rw [N,aX g3] at g;exact g
 |rz o y a=>
  intro x h;refine Vt h λf m p w=>?_;show wa c T C d u (.rz o y a) (.W [.E _ (jP (kx x 1)) _] _ _);exact aA (v3 w) (E7 F.O (n _ _ f).1 (n _ _ p).1 (xH _ m _))
 |yw o i a=>
  intro x h;refine Vt h λf m p w=>?_;exact Ip (n _ _ f).1 (n _ _ p).1 (n _ _ w).1 (xH _ m _)
 |qN o lo hi a=>
  intro x h;refine an5 h λf m p w M=>?_;exact CY (n _ _ f).1 (n _ _ p).1 (n _ _ w).1 (n _ _ M).1 (xH _ m _)
 |Sw i Y a=>
  intro x h;refine tP h λf m=>?_;exact T8 F.V (n _ _ f).1 (v m)
 |rC o y Y a=>
  intro x h;refine Dy h λf p w=>?_;show wa c T C d u (.rC o y Y a) (.km (.E _ (jP (kx x 1)) _) _ _ _);exact aA (v3 w) (E9 F.O (n _ _ p).1 (n _ _ f).1)
 |yx o i Y a=>
  intro x h;refine Dy h λf p w=>?_;exact Iq (n _ _ p).1 (n _ _ w).1 (n _ _ f).1 (Pk _ _ _)
 |tQ o lo=>
  intro x h;refine tP h λf m=>?_;exact E8 (n _ _ f).1 (n _ _ m).1
 |vj q a b B r=>
  intro x h;refine Dy h λf m p=>?_;exact T5 (n _ _ f).2 (B _ m) (r _ p)
 |Lu q b r=>
  intro x h;refine tP h λf m=>?_;exact T1 (n _ _ f).2 (r _ m)
 |DC i G b r=>
  intro x h;refine Dy h λf m p=>?_;exact Ki (λh=>h) (n _ _ f).1 (x8 _ _ _) (YB F.V (v m)) (r _ p)
 |FL J G b r=>
  intro x h;refine Dy h λf m p=>?_;obtain ⟨O,N⟩:=I m;exact Ki (λh=>h) (n _ _ f).1 (x8 _ _ _) (YA F.V O N) (r _ p)
 |CF a=>exact λx h=>T4 (n _ _ h).1
 |wb a=>
  intro x h;refine tP h λf m=>?_;exact Kg F.a F.V (sk _ f).1 (n _ _ m).1 (xe _ _ _)
 |Pu=>exact λx h=>T6
 |FN=>exact λx h=>OD
 |yv b i k r=>
  intro x h;refine an5 h λf m p w M=>?_;exact T2 F.a F.V (sk _ f).1 (r _ m) (Zi w p) (v M)
 |Pt q G=>exact λx h A e σ s ρ Q X QC EC hA hE h=>h.e
 |b=>exact Kk
 |a a V B ih=>
  rename_i D h
  refine tP h λf m=>?_;cases V with
  |b=>exact Kj (B _ f)
  |a b V=>exact GX (B _ f) (ih _ m)
theorem Sb (F:X0 c T C t.a mg mb d u)(f:c.B=vars.d dq):∀e xs,sI c.f.k t vars e xs->Je c T C d u e (rV c.f.k e xs)
 |.b,_,_=>Kk
 |.a a .b,xs,h=>Kj (Kh F f a _ (d5 h).1)
 |.a a (.a b g),xs,h=>GX (Kh F f a _ (d5 h).1) (Sb F f (.a b g) xs.R (d5 h).2)
end
open PySem PySem.Calls PyProof.Rows PySem.SeqAt PySem.W
section
variable {prog:jk}{w:lA}{A:k8}{E:bz->bH->Prop}
theorem TO (b:env.scope.mC=.L) (k:env.Q "type"=ah .A) (n:env.Q "int"=ah .A) (h:env.Q x=ah .F) (o:(x==("__debug__" : ft))=aw)
  (c:s.c.Ns env.globals mg) (r:mg "type"=aq) (p:mg "int"=aq) (d:s.c.Ns env.builtins mb) (v:mb "type"=ah (.v "type")) (u:mb "int"=ah (.v "int")) (l:s.c.Ns env.lC m) (j:m x=ah (.O i t)) (q:Q (.bool ax) s) :
  bc (rM prog w) A (ji (.j4 (.Z (.r "type" g) [.r x e] [] a) [.Is] [.r "int" z] y) env) Q E s:=by
 refine wpAny_Compare1 ?_ af;show bc _ A (ji (.r "type" g) env >>= λf=>ER a f [] (iY a (eB [.r x e] env)) (backToKw a (Om [] env))) _ E s
 refine aG (nt b k (xD c r d v ?_));refine CC (P:=λ_=>True) af (λ_ _=>bQ .machine (.y (.C af)) (s8 af)) (mu af ?_);refine ki (k0 (fV b h l j ?_) o);refine qx ⟨kN,?_⟩;refine J0 (EO _ _ _) af (nt b n (xD c p d u ?_));exact wpAny_is_self af q
end
theorem Dz:∀{l:ao AV} {vs:ao bz},DA l->iM base h ρ l vs->∀(i:aB) v,vs[i]?=ah v->∃n t,v=.O n t
 |[],vs,_,r,i,v,e=>by
  obtain rfl:=(r:vs=[]);exact ba eh e
 |.d n::l,vs,h,r,i,v,e=>by
  refine mO r λw d a c b=>?_;subst a;cases i with
  |zero=>
   obtain rfl:=aK e;obtain ⟨t,rfl⟩:=c;exact U1 _ _ af
  |succ i=>exact Dz (l:=l) h b i v e
 |.h::_,_,h,_,_,_,_=>(bJ h).e
 |.g _::_,_,h,_,_,_,_=>(bJ h).e
 |.c _::_,_,h,_,_,_,_=>(bJ h).e
 |.f _::_,_,h,_,_,_,_=>(bJ h).e
 |.j _::_,_,h,_,_,_,_=>(bJ h).e
 |.e _::_,_,h,_,_,_,_=>(bJ h).e
 |.k _ _ _::_,_,h,_,_,_,_=>(bJ h).e
 |.l _::_,_,h,_,_,_,_=>(bJ h).e
structure N6 (base:eI)(cd:bz)(mg mb:ft->aJ bz):Prop where
 f:∃cc P bm ob,cd=.t cc/\base.IsCode cc P #[]/\base.TableAt cc P #[]/\P≠cStatics/\BMod base dv mg bm ob
 e:mg "all"=aq/\mb "all"=ah (.z "all")
 b:mg "type"=aq/\mb "type"=ah (.v "type")
 a:mg "int"=aq/\mb "int"=ah (.v "int")
structure GnS (z:uP)(x:ft):Prop where
 a:z.mC=.L
 f:z.isCoroutine=aw
 h:∀y∈z.n,y.2≠.free
 e:∀y∈z.n,y.2≠.cell
 k:z.n.j (".0" : ft)=ah .F
 b:z.n.j x=ah .F
 j:z.n.j ("type" : ft)=ah .A
 i:z.n.j ("int" : ft)=ah .A
 g:(x==("__debug__" : ft))=aw
theorem Za (h:gnB z x):GnS z x:=by
 obtain ⟨i,h⟩:=d5 h;obtain ⟨g,h⟩:=d5 h;obtain ⟨f,h⟩:=d5 h;obtain ⟨e,h⟩:=d5 h;obtain ⟨d,h⟩:=d5 h;obtain ⟨c,h⟩:=d5 h;have b:=d5 h;have k:=λy a=>d5 (dz.g f y a);exact ⟨aX i,(vY _).g g,λy a=>aX (k y a).1,λy a=>aX (k y a).2,nH e,nH d,(sk _ c).1,(sk _ b.1).1,v9 b.2⟩
section
variable {c:Cx}{T:dt}{C:fk}{d u:aB}{mg mb:ft->aJ bz}
theorem Po (G:N6 c.z c.f.r mg mb) (hL:c.z.q.k<=c.f.L) (lim:c.z.NoLimit) (NO:rq c T N mg mb) (V:gp c.f c.B) (hka:c.f.j.Q "all"=ah .A) (I:GnS z x)
  (hsrc:hM c T C d u src M) (hfold:∀v,genFold M c.f.j v=ij v) (hA:zr c d u A) (Y:d<pj) (h:ey T C src e σ (λw _=>CT w λl=>DA l) (λ_=>cR)) (S:c.S ρ e σ s) (hgs:EF s.gens)
  (H:∀s',OldK c.z s'.c->EF s'.gens->s'.os=s.os->Q (.bool ax) s') :
  bc c.M A (ji (.Z (.r "all" pa) [.GeneratorExp (.j4 (.Z (.r "type" p1) [.r x p2] [] p3) [.Is] [.r "int" p4] p5) [⟨.r x px,M,[],0⟩] z pos] [] p) c.f.j) Q EC s:=by
 apply gl;intro g9;refine U6 G.f λcc P bm ob hcd hic J hPs BM=>?_;obtain ⟨m,hm⟩:=S.ns;refine lG (pF S V ⟨hka,by decide⟩ NO.g NO.b (.y G.e) ?_);refine CC (P:=λ_=>True) af (λ_ _=>bQ .machine (.y (.C af)) (s8 af)) (mu af (ki ?_));apply jI;intro q9;refine GeneratorExp_rowsK (L:=c.f.L) (m:=m) (Based.start hic J hPs) BM hcd af hA.b I.f (closureFor_none I.h) I.e I.k I.b I.a (aQ hA.g Y) ?_ hfold;apply jI;intro q9;refine hsrc A e σ s ρ _ (λ_=>cR) _ EC hA h S ?_ (λ_ _ _ _ _ _ _ _ q=>q.e);intro v f ρ₁ a₁ σ₁ hs P₁ k r₁ h₁;refine bf (Be h₁) λl D hI=>?_;subst D;refine oh r₁ λt r D e91 rs _=>?_;subst D;obtain ⟨nn,ht⟩:=e91;have hT:f.c.mD t r:=⟨_,ht,af,nn,af⟩;have hlt:=dU ht;have B:f.c.Ns c.f.L m:=by
  refine IQ hm λo es ep ho hd hr=>?_;obtain ⟨sl,ho'⟩:=P₁.N _ o ho (S.Zz _ (.C af)) (λq=>q);exact KS _ es ep ho' hd hr
 have O:f.c.f P=ah {cls:=.s,data:=.T #[]}:=k.E _ _ J.2;have hbP:j1≠P:=λq=>by
  refine IQ NO.b λo es ep ho hd _=>?_;rw [q,J.2] at ho;injection ho with ho;subst ho;injection hd
 refine pf hT ⟨⟨B.push _,λb o eo=>bE _ (k.E b o eo),hL⟩,aA hs.1 hgs,(lim.keeps k.E).push _,c.f.L,f.c.q.k,[f.c.q.k,t],[f.c.q.k],r.k,_,_,λ_=>ax,λ_ y=>y=.bool ax,
  (by rw [nD];exact bb B.lt),af,(λA' hA'=>oC hA' _ _ (b5 hlt) r),⟨l4 _ (bY _ af) af af,hT.push _⟩,?_,?_,?_,?_,?_,?_⟩
 ·intro b F;rw [nD];rcases cz.g F with rfl|F
  ·exact cA _
  ·obtain rfl:=a6.g F;exact bb hlt
 ·intro F;rcases cz.g F with q|F
  ·exact kj _ (q▸dU O)
  ·rw [a6.g F,ht] at O;injection O with O;injection O with O;injection O
 ·intro b F;obtain rfl:=a6.g F;exact B.lt
 ·intro F;refine bf (lim.keeps k.E) λ_ hn _=>?_;exact kj _ (a6.g F▸hn.lt)
 ·intro code h₃ href W hsz Z;have up:∀{g:eI},(∀b∈ew h₃.q.k,b∉[f.c.q.k]->∀o,href.f b=ah o->g.f b=ah o)->∀b o,b≠P->c.z.f b=ah o->g.f b=ah o:=fun {g} hg b o F eo=>by
   have e1:=k.E b o eo;have e3:=W b o F (bE _ e1);exact hg b (sa.i (dU e3)) (λq=>kj _ (a6.g q▸dU e1)) o (Z b o e3)
  refine ⟨λA' E' i v j m₂ hA' hP hn hv hk=>br ⟨af,j.c,j.D,af,λ_ _ e=>e⟩,λA' E' i v j m₂ hA' hP _ hn hv hk=>?_⟩;apply gl;intro g9;refine O4 (Dz hI rs i v (aA dI hP)) λn tt D=>?_;subst D;exact TO I.a I.j I.i I.b I.g (NO.g.at' λo eo=>up hk _ o ((BM.apart J).1) eo) G.b.1 G.a.1 (NO.b.at' λo eo=>up hk _ o hbP eo) G.b.2 G.a.2 hn hv ⟨af,j.c,j.D,af,λ_ _ e=>e⟩
 ·intro c' a s₅ B₅ F₅ G₅ hos hk X;refine qx ⟨kN,?_⟩;refine all_rowsK F₅ G₅ X (au _) (λ_=>ax) (λi v s Q E hP q=>?_) λs' F' G' hos' _=>?_
  ·refine bf hP λ_ _ D=>?_;subst D;exact dZ q
  ·refine aA (dz.i λ_ _=>af) ?_;exact H s' (B₅.finish F') G' (hos'.b (hos.b hs.2.2.1))
theorem Sn {Q E:bz->bH->Prop}(h:Q (.bool b) s):bc M A (ji (.H (.bool b) k p) env) Q E s:=by
 rw [xc];exact br h
theorem Zq (h:Sk a):∃o b k,a=.n o b k:=by
 apply gl;intro c;cases a with
 |n o b k=>exact UZ o b k af
 |_=>exact (bJ h).e
variable {t:Tb}{vars:ao Tx}
theorem OA (F:X0 c T C t.a mg mb d u)(B:c.B=vars.d dq)(G:N6 c.z c.f.r mg mb)(W:c.z.q.k<=c.f.L)(i:d<pj)(y:sI c.f.k t vars (z9 q a) xs){J:Flow->bH->Prop}(D:zr c d u A)
  (h:ey T C q e σ (λv f=>v8 v (ey T C a e f (λw _=>CT w λl=>DA l) (λ_=>cR)) True) (λ_=>cR)) (S:c.S ρ e σ s) (p:EF s.gens) (H:∀s',OldK c.z s'.c->EF s'.gens->s'.os=s.os->J (.ret (.bool ax)) s') :
  bc c.M A (execs (rV c.f.k (z9 q a) xs) c.f.j) J L s:=by
 apply gl;intro g9;obtain ⟨j,_⟩:=d5 y;obtain ⟨Z,j⟩:=d5 j;obtain ⟨Y,j⟩:=d5 j;obtain ⟨X,j⟩:=d5 j;have n:=d5 j;refine iX (wpAny_If ?_);apply jI;intro O;refine lW ((K6 F B q _ Z).2 A e σ s ρ _ _ _ L D h S ?_ (λ_ _ _ _ _ _ _ _ q=>q.e));intro v s' N M r P I x;rcases tJ x with ⟨rfl,x⟩|⟨rfl,_⟩
 ·refine bQ ax af (lW ?_);show bc c.M A (do return !(← TJ (tlA c.f.k a (cW (cW (kx (JO xs) 0) 1) 0)) c.f.j (ji (tlA c.f.k a (cW (cW (kx (JO xs) 0) 1) 0)) c.f.j))) _ L s';apply jI;intro O;refine aG (aG ?_);refine O2 (Zq Y) λop b k z=>?_;subst z;refine Po G W F.O.d F.a F.V (sk _ n.1).1 (Za n.2) (K6 F B _ _ X).1 (λ_=>af) D i x I (by refine aA r.1 ?_;exact p) λm o g V=>?_;refine aG (dh (b9 (dZ (br ?_))));refine iC (iX (zu ?_));exact Sn (H m o g (V.b r.2.2.1))
 ·refine bQ aw af ?_;refine iC (iX (zu ?_));exact Sn (H s' (OldK.of_keep I.E) (by refine aA r.1 ?_;exact p) r.2.2.1)
theorem Kl (x)(a)(e)(σ)(Q)(X):di T C (.a x a) e σ Q X=X4 T C x e σ (λf c b=>match f with
  |.a=>di T C a c b Q X
  |f=>Q f c b) X:=by
 cases a with
 |b=>
  show X4 T C x e σ Q X=_;congr 1;funext f c b;cases f<;>rfl
 |a y a=>rfl
theorem GW (F:X0 c T C t.a mg mb d u)(P:c.B=vars.d dq)(b):∀a xs,sI c.f.k t vars (Ac a b) xs->∀A e σ s ρ Q X (n:Flow->bH->Prop) (k:bz->bH->Prop),zr c d u A->JM c.M A c.f.j k->di T C a e σ Q X->c.S ρ e σ s->
   (∀fl j s' f m g,iF s s'->c.I ρ s.c f s'.c->c.S f m g s'->FlR c.z s'.c f fl j->Q fl m g->match fl with
    |.a=>∀ys,sI c.f.k t vars b ys->bc c.M A (execs (rV c.f.k b ys) c.f.j) n k s'
    |_=>n j s')->RP c s ρ X k->bc c.M A (execs (rV c.f.k (Ac a b) xs) c.f.j) n k s
 |.b,xs,l,A,e,σ,s,ρ,Q,X,n,k,J,I,h,S,H,O=>H .a .next s ρ e σ (fK af af af (au _)) qo.G S af h xs l
 |.a x a,xs,l,A,e,σ,s,ρ,Q,X,n,k,J,I,h,S,H,O=>by
  have y:=d5 l;rw [Kl] at h;refine iX (Kh F P x _ y.1 A e σ s ρ _ X _ k J I h S ?_ O);intro fl j s' f m g i z B r q;cases fl with
  |a=>obtain rfl:=(r:j=.next);exact GW F P b a xs.R y.2 A m g s' f Q X n k J I q B (λfl j D p L o w N M G V=>H fl j D p L o (i.hJ w) (z.A N) M G V) (O.XY i z)
  |c=>obtain rfl:=(r:j=.brk);exact H .c _ s' f m g i z B af q
  |d=>obtain rfl:=(r:j=.cont);exact H .d _ s' f m g i z B af q
  |b a=>have G:=r;obtain ⟨v,rfl,W⟩:=G;exact H (.b a) _ s' f m g i z B r q
end
open PySem PySem.Calls PyProof.Rows PySem.SeqAt PySem.W
theorem I0 (bs)(m:ft->aJ bz)(h:x∉bs.d (·.1)):bindL a bs m x=m x:=by
 induction bs generalizing m with
 |nil=>rfl
 |cons p r c=>
  apply (c (if a p.1=ah .F then λy=>if y=p.1 then ah p.2 else m y else m) λq=>h (de _ q)).b
  by_cases b:a p.1=ah .F
  ·refine aA (c7 b) ?_;exact dA λq:x=p.1=>h (aA q (dY ..))
  ·exact aA (dA b) af
theorem G0 {a:ao ft}{vs:ao bz}(h:x∉a):x∉(a.zip vs).d (·.1):=λq=>(iT.g q).e λp q=>h (dw q.2 (List.of_mem_zip q.1).1)
theorem I2 (f:d x=ah .F)(a:ao ft)(vs)(m:ft->aJ bz)(i:aB)(b:a.kl)(h:a[i]?=ah x)(c:vs[i]?=ah v):bindL d (a.zip vs) m x=ah v:=by
 induction a generalizing vs m i with
 |nil=>exact ba eh h
 |cons p a e=>
  cases vs with
  |nil=>exact ba eh c
  |cons w vs=>
   have b:=eC.g b;cases i with
   |succ i=>exact e vs _ i b.2 h c
   |zero=>
    cases aK h;cases aK c;exact (I0 (a.zip vs) (if d x=ah .F then λy=>if y=x then ah v else m y else m) (G0 b.1)).b (aA (c7 f) (c7 af))
theorem I3 (bs)(m:ft->aJ bz)(h:x∉bs.d (·.1)):bindC a bs m x=m x:=by
 induction bs generalizing m with
 |nil=>rfl
 |cons p r c=>
  apply (c (if a p.1=ah .F then m else λy=>if y=p.1 then ah p.2 else m y) λq=>h (de _ q)).b
  by_cases b:a p.1=ah .F
  ·exact aA (c7 b) af
  ·refine aA (dA b) ?_;exact dA λq:x=p.1=>h (aA q (dY ..))
theorem I4 (f:d x=ah .cell)(a:ao ft)(vs)(m:ft->aJ bz)(i:aB)(b:a.kl)(h:a[i]?=ah x)(c:vs[i]?=ah v):bindC d (a.zip vs) m x=ah v:=by
 induction a generalizing vs m i with
 |nil=>exact ba eh h
 |cons p a e=>
  cases vs with
  |nil=>exact ba eh c
  |cons w vs=>
   have b:=eC.g b;cases i with
   |succ i=>exact e vs _ i b.2 h c
   |zero=>
    cases aK h;cases aK c;apply (I3 (a.zip vs) (if d x=ah .F then m else λy=>if y=x then ah v else m y) (G0 b.1)).b
    refine aA (dA (by rw [f];decide)) ?_;exact c7 af
theorem qL (p)(n)(r)(a):rN n (p::r) a=if (p.2==.cell)=ax then rN (n+1) r ((p.1,n)::a) else rN n r a:=af
theorem IW (a)(n)(b)(h:(b.j x).kI):((rN n a b).j x).kI:=by
 induction a generalizing n b with
 |nil=>exact h
 |cons p r c=>
  rw [qL];by_cases e:(p.2==rP)
  ·refine aA (c7 e) ?_;apply c _ _;cases d:x==p.1 with
   |true=>refine aA (sJ d) ?_;rfl
   |false=>refine aA (nG d) ?_;exact h
  ·refine aA (dA e) ?_;exact c _ _ h
theorem yp (a)(n)(b)(h:a.j x=ah .cell):((rN n a b).j x).kI:=by
 induction a generalizing n b with
 |nil=>exact ba af h
 |cons p r d=>
  have h:=h;rw [qL];cases c:x==p.1 with
  |true=>
   refine aA (c7 (by rw [aK ((sJ c).h.b h)];rfl)) ?_;exact IW r _ _ (aA (sJ c) af)
  |false=>
   have g:=(nG c).h.b h;by_cases e:(p.2==rP)
   ·refine aA (c7 e) ?_;exact d _ _ g
   ·refine aA (dA e) ?_;exact d _ _ g
structure FnD where
 a:eH
 o:R1
 c:zB
 d:ao mJ
 e:ao Tx
noncomputable abbrev FnD.b (F:FnD):ao ft:=F.e.d dq
structure GK (base:eI)(t:Tb)(k:aB)(d:cO)(F:FnD):Prop where
 f:t.a.a k=ah F.a
 c:base.f F.a=ah F.o
 e:F.o.U=.func F.c
 m:F.c.body=.stmts F.d
 n:F.c.closure=[]
 s:F.c.globals=dv
 l:F.c.builtins=j1
 o:F.c.scope.isCoroutine=aw
 r:F.c.scope.isGenerator=aw
 a:F.c.scope.mC=.L
 p:base.CodeRec F.c.code F.c.qualname
 u:d.b<=F.b.a
 j:∀vs:ao bz,vs.a=d.b->ES F.c ⟨vs,[]⟩=ij ((F.b.K d.b).zip vs)
 h:F.b.kl
 b:∀x∈F.b,F.c.scope.n.j x=ah .F\/F.c.scope.n.j x=ah .cell
 q:∀x∈F.b,(x==("__debug__" : ft))=aw
 i:rV F.c.scope d.a F.d=F.d
 g:sI F.c.scope t F.e d.a F.d=ax
noncomputable def Cx.E (G:Cx)(f:Fm)(vars:ao ft)(outer:ao Ob):Cx:={G with f:=f,B:=vars,O:=outer}
theorem oZ.g (O:oZ G)(f)(vars)(outer):oZ (G.E f vars outer):=⟨O.K,O.b,O.a,O.d⟩
theorem rq.w (O:rq G T N mg mb)(f)(vars)(outer):rq (G.E f vars outer) T N mg mb:=
 ⟨O.g,O.b,O.p,O.l,O.q,O.n,O.j,O.r,O.m⟩
section
variable {G:Cx}{T:dt}{t:Tb}{mg mb:ft->aJ bz}{D:aB->aJ cO}
theorem Zu {c c':Cx}(p:c.F=dF c'.O)(a:c.H=c'.H/\c.w=c'.w/\c.z=c'.z/\c.J=c'.J/\c.N=c'.N)(S:c.S ρ e σ s)(g:∀b o,s.c.f b=ah o->i.f b=ah o)(r:c'.f.j.frame=ah c'.f.L)(m:∀b,c'.f.l b->s.c.f b=aq)
  (P:c'.I ρ i d s'.c) (k:c'.S d u l s'):c.P ρ s.c d s'.c/\c.S d e l s':=by
 have t:c'.F=c'.f.L::c.F:=by
  show dF (c'.f.j::c'.O)=_;unfold dF;refine aA mL (aA r (aA p ?_));rfl
 have h:qo c.F c'.f.l ρ s.c d s'.c:=by
  exact (t▸((qo.D g).A P)).W (m _ (.C af))
 have q:c.P ρ s.c d s'.c:=⟨h.J,h.H,h.E,h.B,λb o j n z f=>h.I b o j n (λw=>ba (m b w) j) f,λb o j n z=>h.N b o j n (λw=>ba (m b w) j)⟩;exact ⟨q,⟨S.toSt.DB q (aA a.2.2.1 k.E) (a.1▸a.2.1▸a.2.2.1▸a.2.2.2.1▸k.K),k.j,k.g,aA a.2.2.2.2 k.i⟩⟩
structure Frm (s:bH)(F:FnD)(np:aB)(vals:ao bz)(fm:Fm)(h₁:eI):Prop where
 w:fm.k=F.c.scope
 z:fm.r=F.c.code
 L:fm.L=s.c.q.k
 l:Kp s.c h₁
 p:∀b,fm.l b->s.c.f b=aq
 V:gp fm F.b
 r:∃m,h₁.Ns fm.L m
 A:∀x c,fm.n.j x=ah c->∃v,h₁.IsCell c v
 B:∀i v,i<np->vals[i]?=ah v->∃x,F.b[i]?=ah x/\fm.p h₁ x v
set_option backward.match.sparseCases true in
theorem Sm (O:oZ G)(K:GK G.z t k w F)(n:G.z.jC s.c)(W:A.depth<pj)(C:c.a=w.b)
  (H:∀u a tk,s.D<=tk->Frm s F w.b c u a->bc (rM G.H G.w) (A.deeper u.j) (execs F.d u.j) (λf s'=>R (.ok (.ret (match f with|.ret v=>v|_=>.s))) s')
   (λe s'=>bc (rM G.H G.w) (A.deeper u.j) (leaving u.j e) (λ_ l=>R (.error e) l) (λZ l=>R (.error Z) l) s') {s with heap:=a,toks:=tk}):oF (rM G.H G.w) A (.call (.t F.a) ⟨c,[]⟩) R s:=by
 apply codeAny_call_function W (n _ _ K.c) K.e K.o K.r K.m (K.p.keeps n);refine aA (K.j c C) ?_;apply br;refine aA K.n (aA K.s (aA K.l ?_));have h:∀{y:ft},F.c.scope.n.j y=ah .cell->∃j,(rN (s.c.q.k+1) F.c.scope.n []).j y=ah j:=λq=>Option.isSome_iff_exists.g (yp _ _ _ q);refine fT (au _) (wpAny_newFunctionEnv_cells K.a (λx T=>?_) λP V s' x D=>?_)
 ·exact (K.b x.1 (List.mem_of_mem_take ((List.of_mem_zip T).1))).I id λq=>⟨q,yp _ _ _ q⟩
 subst V;refine l6 x.done λa tk L _=>?_;subst L;have d:=x.toInCall.keep;refine ⟨(O.d.keeps n).keeps d,codeAny_func (H ⟨F.c.qualname,F.c.scope,s.c.q.k,F.a,F.c.code,rN (s.c.q.k+1) F.c.scope.n []⟩ a tk D ⟨af,af,af,d,?_,?_,⟨_,x.toInCall.ns⟩,λy j X=>⟨_,x.cell y j X⟩,?_⟩)⟩
 ·rintro b (rfl|⟨y,B⟩)
  ·exact kv _
  ·exact mf (dK (x.above y b (xb B)))
 ·exact ⟨K.a,λy B=>(K.b y B).I id λq=>⟨q,h q⟩,K.h,λy z j J Y=>name_of_addr x.apart (xb J) (xb Y),λy j J=>dW (x.above y j (xb J)),K.q⟩
 ·intro i v N M;have I:=aS N K.u;have m:=bV I;have p:(F.b.K w.b)[i]?=ah F.b[i]:=by refine aA List.getElem?_take (aA (c7 N) ?_);exact m
  have o:(F.b.K w.b).kl:=K.h.sublist (List.take_sublist _ _);refine bQ _ m ?_;rcases K.b _ (eQ m) with q|q
  ·exact .C ⟨q,_,x.toInCall.ns,I2 q _ _ _ i o p M⟩
  ·obtain ⟨j,r⟩:=h q;have g:=x.cell F.b[i] j r;rw [I4 q _ _ _ i o p M] at g;exact .y ⟨q,j,r,g⟩
theorem Frm.y (Fr:Frm s F fd.b vals fm h₁)(K:GK G.z t k fd F)(hst:G.z.jC s.c)(sim:FJ G.H G.w G.z G.J ρ σ s.c)(rs:iM G.z s.c ρ vs vals)(hlen:vs.a=fd.b)
  (hfrs:s.c.jD G.z outer) (hoff:∀b∈dF outer,b∉iL ρ) (hfrd:∀b∈dF outer,∃o es n,s.c.f b=ah o/\o.U=.dict es n) (hpos:0<s.D) (htks:∀t,s.D<=t->ρ.d t=aq) (hini:∀t x,G.N t=ah x->ρ.d t=ah x) (htk:s.D<=tk) :
  (G.E fm F.b outer).S ρ (λi=>vs[i]?) σ {s with heap:=h₁,toks:=tk}:=by
 have hbase:∀b,fm.l b->G.z.f b=aq:=λb hb=>by
  cases q:G.z.f b with
  |none=>rfl
  |some o=>exact ba (Fr.p b hb) (hst _ _ q)
 have hmut:∀b,fm.l b->b∉iL ρ:=λb hb m=>by
  refine bf (sim.H m) λo ho _=>?_;exact ba (Fr.p b hb) ho
 refine ⟨⟨oH hst Fr.l,sim.L Fr.l.imm λb o _ eo=>Fr.l b o eo,Fr.r,Fr.A,λi a ei=>?_,?_,hmut,λb hb=>?_,hbase,λb hb=>?_⟩,aS hpos htk,λt ht=>htks t (ab htk ht),hini⟩
 ·apply gl;intro g9;refine bf (rs.Px ei) λv hv rv=>?_;refine bf (Fr.B i v (dw hlen (a7.g ei).1) hv) λx h1 h2=>?_;exact jf x v h1 h2 (RV.yz Fr.l.imm (iV.g.d _) _ _ rv)
 ·obtain ⟨m,hn⟩:=Fr.r;exact .cons (by show fm.k.mC≠_;refine aA Fr.w (aA K.a ?_);decide) af hn (hbase _ (.C af)) (hfrs.of_keeps λb o eo _=>bQ o (Fr.l b o eo) af)
 ·rcases cz.g (show b∈fm.L::dF outer from hb) with q|q
  ·exact aA q (hmut _ (.C af))
  ·exact hoff b q
 ·rcases cz.g (show b∈fm.L::dF outer from hb) with q|q
  ·refine Zb Fr.r λm o es ep ho hdd _=>?_;exact FC o es ep (aA q ho) hdd
  ·refine K2 (hfrd b q) λo es nn ho hdd=>?_;exact FC o es nn (Fr.l b o ho) hdd
theorem Frm.E (g:Frm s F c.b e b f)(K:GK G.z t k c F)(O:oZ G)(i:rq G T t.a mg mb)(j:pY (G.E b F.b outer) C t.a.a (d+2) (u+10))(h:u+100<uO):Je (G.E b F.b outer) T C d u c.a F.d:=by
 have a:(G.E b F.b outer).f.k=F.c.scope:=g.w;have:=Sb (⟨O.g ..,i.w ..,g.V,j,h⟩:X0 (G.E b F.b outer) T C t.a mg mb d u) af c.a F.d (aA a K.g);rw [a,K.i] at this;exact this
theorem Lf (O:oZ G)(NO:rq G T t.a mg mb)(FD:∀k d,D k=ah d->∃F,GK G.z t k d F):∀n d u f vars outer,d+3*n+3<=pj->u+13*n+120<uO->pY (G.E f vars outer) (bp T D n) t.a.a d u:=by
 intro n
 induction n with
 |zero=>intro d u f vars outer _ _ k Y W Q X h;exact h.e
 |succ n ih=>
  intro d u f vars outer hd hu k Y W Q X h;apply gl;intro g9;refine l8 h λfd hD w h=>?_;obtain ⟨F,K⟩:=FD k fd hD;apply bQ F.a K.f;intro A e s ρ Z R P S rs HV HX;refine Sm (G:=G) O K S.E (aQ P.g (aS (cX (by decide:0<3)) (ab (aj (ak _ _) 3) hd))) (dw rs.yy w) λB J tk L z=>?_;have x:=z.y K S.E S.K rs w S.Vy S.Jd S.R S.j S.g S.i L;have N:zr (G.E B F.b (f.j::outer)) (d+1) (u+3) (A.deeper B.j):=by
   refine ⟨?_,P.b,az P.g,aj P.f 3⟩;show A.frames.d (B.j::·)=_;exact aA P.h af
  have q:iF s {s with heap:=J,toks:=tk}:=fK af af af L;refine z.E K O NO (ih _ _ _ _ _ (by show d+3+3*n+3<=_;rw [bo d 3];exact hd) (by show u+13+13*n+120<_;rw [bo u 13];exact hu)) (aQ (show u+103<=u+13*(n+1)+120 from aL (ak u _) (aa af)) hu) (A.deeper B.j) (λi=>Y[i]?) W _ ρ _ _ _ _ N PassesOwn.leaving h x ?_ ?_
  ·intro fl f' o j V g l p m r b;apply gl;intro g9;obtain ⟨PB,SB⟩:=Zu (c:=G.E f vars outer) (c':=G.E B F.b (f.j::outer)) af (lP af af af af af) S z.l af z.p p m;cases fl with
   |a=>obtain rfl:=(r:f'=.next);exact HV _ o j .h g (q.hJ l) PB SB Bg b
   |c=>exact b.e
   |d=>exact b.e
   |b a=>obtain ⟨v,rfl,rv⟩:=r;exact HV _ o j _ g (q.hJ l) PB SB rv b
  ·intro ex o j V g l p m H b;refine Bo N.h m.Vy af p.E H λI C y=>?_;have M:=Zu (c:=G.E f vars outer) (c':=G.E B F.b (f.j::outer)) (s':={o with heap:=I}) af (lP af af af af af) S z.l af z.p (y.u (lF m.R) p) (xW x m y);exact HX ex _ j g (q.hJ (l.hJ (fK af af af (au _)))) M.1 M.2 (C.i (JV.Ib z.l)) b
theorem TV (O:oZ G)(NO:rq G T t.a mg mb)(FD:∀k d,D k=ah d->∃F,GK G.z t k d F)
  (hb:G.z=s.c) (Z:A.frames=ah []) (x:A.handled=aq) (hd:A.depth+3*n+10<=pj) (hu:A.units+13*n+200<uO) (M:0<s.D) (H:∀t,s.D<=t->G.N t=aq)
  (ha:t.a.a k=ah a) (h:OQ T D n k vs) (rs:iM G.z s.c ⟨[],G.N⟩ vs y) (Y:EF s.gens) (GN:∀o fd,G.z.f a=ah o->o.U=.func fd->N6 G.z fd.code mg mb)
  (HV:∀s',OldK G.z s'.c->EF s'.gens->s'.os=s.os->R (.ok (.ret (.bool ax))) s'):oF (rM G.H G.w) A (.call (.t a) ⟨y,[]⟩) R s:=by
 refine Zb h λnp pa q z hD m h=>?_;obtain ⟨F,K⟩:=FD k _ hD;obtain rfl:=aK (ha.h.b K.f);have J:G.z.jC s.c:=hb▸λ_ _ e=>e;refine Sm O K J (aS (cX (by decide:0<10)) (ab (aj (ak _ (3*n)) 10) hd)) (dw rs.yy m) λf C tk I W=>?_;have N:zr (G.E f F.b []) (A.depth+1) (A.units+3) (A.deeper f.j):=by
  refine ⟨?_,x,au _,au _⟩;show A.frames.d (f.j::·)=_;exact aA Z af
 have L:=W.w;have FO:X0 (G.E f F.b []) T (bp T D n) t.a mg mb (A.depth+1) (A.units+3):=⟨O.g ..,NO.w ..,W.V,Lf O NO FD n _ _ _ _ _ (by show A.depth+3+3*n+3<=_;rw [bo A.depth 3];exact ab (ar (by decide:6<=10) _) hd) (by show A.units+13+13*n+120<_;rw [bo A.units 13];exact aQ (ar (by decide:133<=200) _) hu),aQ (show A.units+103<=A.units+13*n+200 from aL (ak A.units (13*n)) (aa af)) hu⟩;have GO:N6 (G.E f F.b []).z (G.E f F.b []).f.r mg mb:=by
  have:=GN _ _ K.c K.e;exact (aA W.z this)
 have hL:(G.E f F.b []).z.q.k<=(G.E f F.b []).f.L:=by
  show G.z.q.k<=f.L;exact W.L▸hb▸au _
 have u:iF s {s with heap:=C,toks:=tk}:=fK af af af I;refine dw (show rV (G.E f F.b []).f.k (Ac pa (z9 q z)) F.d=F.d from L▸K.i) ?_;apply jI;intro q9;apply J5;intro x9;refine GW FO af (z9 q z) pa F.d (aA L K.g) (A.deeper f.j) (λi=>vs[i]?) [] _ ⟨[],G.N⟩ _ _ _ _ N PassesOwn.leaving h (W.y K J ⟨af,λ_ _ _ h=>ba eh h,λ_ _ _ _ _ h=>ba eh h,λ_ _ h=>ba eh h,λ_ h=>bZ h dm⟩ rs m kN (λ_ h=>bZ h dm) (λ_ h=>bZ h dm) M H (λ_ _ e=>e) I) (λfl f' l r P p c V j B b=>?_) (λex l r P p c V j x₂ b=>b.e)
 ·have X:=u.hJ c;have hg:=X.1▸Y;cases fl with
  |a=>exact λys hy=>OA FO af GO hL (aS (aS (bL (cA A.depth)) (aL (ak _ (3*n)) (by decide:2<=10))) hd) hy N b j hg λs' o g os=>HV s' o g (os.b X.2.2.1)
  |c=>exact b.e
  |d=>exact b.e
  |b v=>
   obtain ⟨w,rfl,rv⟩:=B;obtain rfl:=(b:v=.g ax);obtain rfl:=(rv:w=.bool ax);exact HV l (OldK.of_keep j.E) hg X.2.2.1
end
open PySem PySem.Calls PyProof.Rows PySem.SeqAt PySem.W
universe uu
noncomputable def Cur (a:Type uu):aB->Type uu
 |0=>a
 |n+1=>bz->Cur a n
noncomputable def Lb {a:Type uu}:(n:aB)->(ao bz->a)->Cur a n
 |0,f=>f []
 |n+1,f=>λv=>Lb n λb=>f (v::b)
theorem Zh {b:Type uu}:∀{n:aB} {f g:ao bz->b},Lb n f=Lb n g->∀vs,vs.a=n->f vs=g vs:=by
 intro c
 induction c with
 |zero=>
  intro f g h vs e;obtain rfl:=gE.g e;exact h
 |succ n a=>
  intro f g h vs e;cases vs with
  |nil=>injection e
  |cons v vs=>exact a (congrFun h v) vs (js e)
noncomputable def Vw (v:bz):aJ eH:=match v with
 |.t a=>ah a
 |_=>aq
theorem Ap (h:Vw v=ah a):v=.t a:=by
 cases v with
 |ref b=>obtain rfl:=aK h;rfl
 |_=>exact ba af h
noncomputable def flO (d:Data):aJ (rU bz):=match d with
 |.T a=>ah a
 |_=>aq
theorem G6 (h:flO d=ah vs):d=.T vs:=by
 cases d with
 |fields b=>obtain rfl:=aK h;rfl
 |_=>exact ba af h
noncomputable def Yc (d:Data):aJ zB:=match d with
 |.func f=>ah f
 |_=>aq
theorem KZ (h:Yc d=ah f):d=.func f:=by
 cases d with
 |func b=>obtain rfl:=aK h;rfl
 |_=>exact ba af h
noncomputable def stO (v:bz):aJ ft:=match v with
 |.str s _=>ah s
 |_=>aq
theorem Sa (h:stO v=ah s):∃t,v=.str s t:=by
 cases v with
 |str b t=>obtain rfl:=aK h;exact ⟨t,af⟩
 |_=>exact ba af h
noncomputable def Sq (K:pn)(c:bz)(q:ft):bC:=jO (Vw c) λa=>jO (K.j a) λo=>jO (flO o.U) λb=>jO b.u[1]? λv=>jO (stO v) λs=>kn s q
theorem Pj {K:pn}(X:K.In base)(h:Sq K i q=ax):base.CodeRec i q:=by
 refine bf (dP h) λa g h=>?_;refine bf (dP h) λo f h=>?_;refine bf (dP h) λc e h=>?_;refine bf (dP h) λv b h=>?_;refine bf (dP h) λs d h=>?_;obtain rfl:=v3 h;obtain ⟨t,rfl⟩:=Sa d;rw [dI] at b;exact acB a o c t (Ap g) (X _ _ f) (G6 e) b
noncomputable def BB (b:FuncBody):ao mJ:=match b with
 |.stmts l=>l
 |_=>[]
noncomputable def YT (b:FuncBody):bC:=match b with
 |.stmts _=>ax
 |_=>aw
theorem Uk (h:YT b=ax):b=.stmts (BB b):=by
 cases b with
 |stmts _=>rfl
 |expr _=>injection h
noncomputable def TQ:ao Arg->ao Tx->bC
 |[],[]=>ax
 |a::c,x::b=>bT x (zi a.arg)&&TQ c b
 |_,_=>aw
theorem J9:∀{as:ao Arg} {xs:ao Tx},TQ as xs=ax->as.d (·.arg)=xs.d dq
 |[],[],_=>af
 |[],_::_,h=>by injection h
 |_::_,[],h=>by injection h
 |a::as,x::xs,h=>by
  refine tP h λc b=>?_;refine aA je ?_;rw [je,J9 b,gj.g c,qE]
noncomputable def abM (sc:uP) (x:Tx):bC:=(Fy (dq x) sc.n .F||Fy (dq x) sc.n .cell)&&!(kn (dq x) "__debug__")
noncomputable def fnB (K:pn)(t:Tb)(k:aB)(d:cO)(vs:ao Tx):bC:=jO t.b[k]? λa=>jO (K.j a) λo=>jO (Yc o.U) λb=>
 YT b.body&&(b.closure.isEmpty&&(aM b.globals dv&&(aM b.builtins j1&&(!b.scope.isCoroutine&&(!b.scope.isGenerator&&(bg (b.scope.mC=.L) &&
  (Sq K b.code b.qualname&&(TQ b.params.args (vs.K d.b)&&(bM d.b vs.a&&(bg vs.kl&&vs.oG (abM b.scope)))))))))))
noncomputable def O1 (K:pn)(t:Tb)(k:aB):zB:=(((t.b[k]?).J λa=>K.j a).J λo=>Yc o.U).l default
abbrev RW:=uP×Arguments×ao mJ
noncomputable def prt (a:zB):RW×bz×bz:=((a.scope,a.params,BB a.body),a.defaults,a.kwdefaults)
noncomputable def skl (q:ft)(p:Arguments)(v w:bz):zB:={ (default:zB) with qualname:=q,params:=p,defaults:=v,kwdefaults:=w}
structure FnC (K:pn)(t:Tb)(k:aB)(d:cO)(vs:ao Tx)(p:RW):Prop where
 b:fnB K t k d vs=ax
 e:prt (O1 K t k)=(p,fW,fW)
 a:∀q,Lb d.b (λvs=>ES (skl q p.2.1 .s .s) ⟨vs,[]⟩)=Lb d.b λvs=>ij ((p.2.1.args.d (·.arg)).zip vs)
 Q:rV p.1 d.a p.2.2=p.2.2
 g:sI p.1 t vs d.a p.2.2=ax
theorem ID {l:ao Tx}(h:l.kl):(l.d dq).kl:=List.pairwise_map.i (h.I λa q=>a (pC q))
theorem FnC.E {K:pn}(X:K.In base)(H:FnC K t k d vs p):∃F,GK base t k d F:=by
 refine gl ?_;intro V;obtain ⟨h,c,l,B,C⟩:=H;refine bf (dP h) λa w h=>?_;refine bf (dP h) λo v h=>?_;refine bf (dP h) λb u h=>?_;have e:O1 K t k=b:=by unfold O1;refine aA w ?_;rw [vU,v,vU,u];rfl
 have c:=e▸c;have T:(b.scope,b.params,BB b.body)=p:=aW Prod.fst c;have P:b.defaults=.s:=aW (·.2.1) c;have O:b.kwdefaults=.s:=aW (·.2.2) c;subst T;have l:Lb d.b (λvs=>ES b ⟨vs,[]⟩)=Lb d.b λvs=>ij ((b.params.args.d (·.arg)).zip vs):=by
  have q:Lb d.b (λvs=>ES (skl b.qualname b.params b.defaults b.kwdefaults) ⟨vs,[]⟩)=Lb d.b λvs=>ij ((b.params.args.d (·.arg)).zip vs):=by refine aA P (aA O ?_);exact l b.qualname
  exact q
 refine acP h λN M L J I G D s r n m g=>?_;refine ⟨⟨a,o,b,BB b.body,vs⟩,w,X _ _ v,KZ u,Uk N,List.isEmpty_iff.g M,aD L,aD J,(vY _).g I,(vY _).g G,aX D,Pj X s,aA (ay (f:=dq)) (aa n),λz A=>?_,(ID (aX m)),λx j=>?_,λx j=>?_,B,C⟩
 ·exact aA (Zh l z A) (aA (J9 r) (aA List.map_take af))
 ·obtain ⟨y,i,rfl⟩:=iT.g j;exact (aZ.g (d5 (dz.g g y i)).1).I nH nH
 ·obtain ⟨y,i,rfl⟩:=iT.g j;exact v9 (d5 (dz.g g y i)).2
open PySem PySem.Calls PyProof.Rows PySem.SeqAt PySem.W
structure Sp where
 t:Tb
 d:ao AV
 c:ao eH
 f:ao (aJ aB)
 e:ao (aJ aB)
 a:ao (cO×ao Tx)
noncomputable def Sp.b (s:Sp):dt:=⟨λi=>s.d[i]?,λi=>(s.f[i]?).join,λk=>(s.e[k]?).join⟩
noncomputable def Sp.D (s:Sp):aB->aJ cO:=λk=>(s.a[k]?).d (·.1)
noncomputable def X6 (l:ao (aB×Tx))(t:aB):aJ Tx:=match l with
 |[]=>aq
 |(u,x)::r=>kr (aM u t) (ah x) (X6 r t)
noncomputable def skO (v:bz):aJ (ft×aB):=match v with
 |.str s t=>ah (s,t)
 |_=>aq
theorem YI (h:skO v=ah p):v=.str p.1 p.2:=by
 cases v with
 |str _ _=>obtain rfl:=aK h;rfl
 |_=>exact ba af h
noncomputable def inO (v:bz):aJ aU:=match v with
 |.O i _=>ah i
 |_=>aq
theorem KR (h:inO v=ah i):∃t,v=.O i t:=by
 cases v with
 |int _ t=>obtain rfl:=aK h;exact ⟨t,af⟩
 |_=>exact ba af h
noncomputable def Yw (v:bz):aJ xy:=match v with
 |.v i=>ah i
 |_=>aq
theorem GR (h:Yw v=ah i):v=.v i:=by
 cases v with
 |type _=>obtain rfl:=aK h;rfl
 |_=>exact ba af h
noncomputable def buO (v:bz):aJ xy:=match v with
 |.z i=>ah i
 |_=>aq
theorem Zl (h:buO v=ah i):v=.z i:=by
 cases v with
 |builtin _=>obtain rfl:=aK h;rfl
 |_=>exact ba af h
noncomputable def boO (v:bz):aJ bC:=match v with
 |.bool i=>ah i
 |_=>aq
theorem Sr (h:boO v=ah i):v=.bool i:=by
 cases v with
 |bool _=>obtain rfl:=aK h;rfl
 |_=>exact ba af h
theorem Dj (h:pH v):v=.s:=by
 cases v with
 |none=>rfl
 |_=>exact (bJ h).e
noncomputable def sqO (d:Data):aJ (rU bz×aB):=match d with
 |.seq a n=>ah (a,n)
 |_=>aq
theorem YE (h:sqO d=ah p):d=.seq p.1 p.2:=by
 cases d with
 |seq _ _=>obtain rfl:=aK h;rfl
 |_=>exact ba af h
section
variable (K:pn)(tk:ao (aB×Tx))
noncomputable def Ua (T:xy)(v:bz)(P:ao bz->bC):bC:=jO (Vw v) λa=>jO (K.j a) λo=>jO (Yw o.cls) λc=>jO (sqO o.U) λp=>bg (c=T)&&(o.dict.isNone&&(o.slots.isEmpty&&P p.1.u))
theorem Kn (h:Ua K T v P):∃a b n,v=.t a/\K.j a=ah ⟨.v T,aq,.seq b n,#[]⟩/\P b.u:=by
 apply gl;intro u;refine bf (dP h) λa t h=>?_;refine bf (dP h) λf s h=>?_;obtain ⟨k,j,i,g⟩:=f;refine bf (dP h) λc r h=>?_;refine bf (dP h) λp q h=>?_;refine tP h λo h=>?_;have d:=d5 h;refine tP d.2 λm l=>?_;have e:(⟨k,j,i,g⟩:R1)=⟨.v T,aq,.seq p.1 p.2,#[]⟩:=by
  exact aA (show k=.v T from (GR r).b (aW Ii (aX o))) (aA (show j=aq from jE.g d.1) (aA (show i=_ from YE q) (aA (show g=#[] from uU.g m) af)))
 exact KS a p.1 p.2 (Ap t) (s.b (aW ah e)) l
mutual
noncomputable def rvC:AV->bz->bC
 |.h,v=>pH v
 |.g b,v=>jO (boO v) λc=>bg (b=c)
 |.d i,v=>jO (inO v) λj=>bg (i=j)
 |.c x,v=>jO (skO v) λp=>bT x (zi p.1)&&(bM x.a 2000&&(!(aM p.2 0)&&jO (X6 tk p.2) (bT x)))
 |.f a,v=>Ua K "tuple" v λl=>bM a.a 2000&&Iu a l
 |.j a,v=>Ua K "list" v λl=>bM a.a 2000&&Iu a l
 |.e _,_=>aw
 |.k _ _ _,_=>aw
 |.l _,_=>aw
noncomputable def Iu:ao AV->ao bz->bC
 |[],[]=>ax
 |x::a,v::b=>rvC x v&&Iu a b
 |_,_=>aw
end
end
theorem Fv {n:aB}(q:bM n 2000):n<=gL:=ab (aa q) (aF 2000 998000)
set_option tactic.hygienic true in
theorem Ub {K:pn}(X:K.In base)(B:base.jC h)(A:∀t x,X6 tk t=ah x->ρ.d t=ah x)(a):∀v,rvC K tk a v->RV base h ρ a v:=by
 induction a using AV.rec (motive_2:=λz=>∀g,Iu K tk z g->iM base h ρ z g) with
 |h=>exact λv d=>Dj d
 |g b=>
  intro v d;refine bf (dP d) λc e d=>?_;obtain rfl:=aX d;exact Sr e
 |d i=>
  intro v d;refine bf (dP d) λc e d=>?_;obtain rfl:=aX d;exact KR e
 |c s=>
  intro v d;apply gl;intro G;refine bf (dP d) λp e d=>?_;refine Vt d λk j w d=>?_;refine bf (dP d) λy D C=>?_;obtain rfl:=gj.g C;refine KU p.2 ?_ (Fv j) (λq=>?_) (A _ _ D)
  ·refine aA (gj.g k) ?_;rw [qE];exact YI e
  ·have w:=q▸w;injection w
 |f g u=>
  intro v d;obtain ⟨a,f,n,rfl,e,d⟩:=Kn K (P:=λl=>bM g.a 2000&&Iu K tk g l) d;refine tP d λk j=>?_;exact yg a f af ⟨n,B _ _ (X _ _ e)⟩ (u _ j) (Fv k)
 |j g u=>
  intro v d;obtain ⟨a,f,n,rfl,e,d⟩:=Kn K (P:=λl=>bM g.a 2000&&Iu K tk g l) d;refine tP d λk j=>?_;exact yg a f af ⟨n,X _ _ e⟩ (u _ j) (Fv k)
 |e r=>exact λv d=>(bJ d).e
 |k a b c=>exact λv d=>(bJ d).e
 |l c=>exact λv d=>(bJ d).e
 |nil=>
  rename_i g d
  cases g with
  |nil=>exact (af:_=[])
  |cons _ _=>injection d
 |cons x F m o=>
  rename_i g d
  cases g with
  |nil=>injection d
  |cons v g=>
   refine tP d λk j=>?_;exact jf v g af (m _ k) (o _ j)
noncomputable def zS (f:aB->bC):aB->bC
 |0=>ax
 |n+1=>f n&&zS f n
theorem sQ:∀{n k:aB},zS f n->k<n->f k
 |n+1,k,h,a=>by
  refine tP h λc b=>?_;rcases Nat.lt_or_eq_of_le (lg a) with q|rfl
  ·exact sQ b q
  ·exact c
theorem oK {a:Type}{l:ao a}{x:a}(h:l[i]?=ah x):i<l.a:=(a7.g h).1
noncomputable def IL (o:aJ (aJ bz)):bC:=jO o λv=>v.isNone
theorem sL (h:IL o):o=ah aq:=by
 refine bf (dP h) λv e h=>?_;exact aA e (aA (jE.g h) af)
noncomputable def v7 (o:aJ (aJ bz))(a:eH):bC:=jO o λo=>jO o λv=>jO (Vw v) λb=>aM b a
theorem tH (h:v7 o a):o=ah (ah (.t a)):=by
 refine bf (dP h) λf d h=>?_;refine bf (dP h) λv c h=>?_;refine bf (dP h) λb e h=>?_;obtain rfl:=aD h;exact aA d (aA c (aA (Ap e) af))
noncomputable def Kz (o:aJ bz)(T:xy):bC:=jO o λv=>jO (Yw v) λs=>bg (s=T)
theorem Fx (h:Kz o T):o=ah (.v T):=by
 refine bf (dP h) λv a h=>?_;refine bf (dP h) λb e h=>?_;obtain rfl:=aX h;exact aA a (aA (GR e) af)
noncomputable def YW (o:aJ (aJ bz))(T:xy):bC:=jO o λo=>jO o λv=>jO (buO v) λs=>bg (s=T)
theorem Ul (h:YW o T):o=ah (ah (.z T)):=by
 refine bf (dP h) λd c h=>?_;refine bf (dP h) λv a h=>?_;refine bf (dP h) λb e h=>?_;obtain rfl:=aX h;exact aA c (aA a (aA (Zl e) af))
noncomputable def elO {a:Type}(o:aJ a)(N:bC)(P:a->bC):bC:=match o with
 |none=>N
 |some x=>P x
section
variable (K:pn)(s:Sp)(tk:ao (aB×Tx))
noncomputable def stB (a:AV)(N:bC)(P:bz->bC):bC:=match a with
 |.l v=>P v
 |_=>N
noncomputable def gB (i:aB):bC:=jO s.t.d[i]? λx=>elO s.d[i]? ax λa=>stB a (jO (Ot K dv (dq x)) λo=>jO o (rvC K tk a)) λv=>jO (Yw v) λT=>((bg (T="int")&&kn (dq x) "int")||(bg (T="tuple")&&kn (dq x) "tuple"))&&IL (Ot K dv (dq x))
noncomputable def fB (k:aB):bC:=jO s.t.c[k]? λx=>jO s.t.b[k]? λa=>elO (s.b.a k)
 (v7 (Ot K dv (dq x)) a&&jO (K.j a) λo=>jO (Yc o.U) λz=>ax)
 λi=>jO s.c[i]? λC=>v7 (xB K (.t C) (dq x)) a&&(Kz (TL K (.t a)) "function"&&(J1 K (.t a)&&(!(kn (cN .ts) (dq x))&&(!(kn (cN .A5) (dq x))&&!(kn (cN .r8) (dq x))))))
noncomputable def Ug (C:eH)(x:At):bC:=IL (xB K (.t C) (cN x))
noncomputable def Zj (C:eH):bC:=hasDictIn K C&&(plainGet K C ""&&(YW (xB K (.t C) "__setattr__") "object.__setattr__"&&(plainOver K C&&(Ug K C .ts&&(Ug K C .A5&&Ug K C .r8)))))
noncomputable def cB (i:aB):bC:=jO s.t.f[i]? λx=>jO s.c[i]? λC=>v7 (Ot K dv (dq x)) C&&(makesIn K C&&(J1 K (.t C)&&elO (s.b.c i) ax λk=>jO s.t.b[k]? λa=>v7 (xB K (.t C) "__init__") a&&Kz (TL K (.t a)) "function"))
noncomputable def pB (k:aB):bC:=!(s.t.a.g k)||(s.b.a k).isNone
noncomputable def bB:bC:=([Bi.a,.h,.e,.d,.c,.f,.i,.b,.g].oG λb=>IL (Ot K dv (qM b)))&&(IL (Ot K dv "ValueError")&&(K.j pg).kI)
noncomputable def YH:bC:=zS (gB K s tk) s.t.d.a&&(zS (fB K s) s.t.c.a&&(zS (cB K s) s.t.f.a&&(zS (pB s) s.t.e.a&&(bB K&&s.c.oG (Zj K)))))
end
noncomputable def Kb (prog:jk)(w:lA)(base:eI)(K:pn)(s:Sp)(tk:ao (aB×Tx)):Cx:=
 {H:=prog,w:=w,z:=base,J:=λi=>s.c[i]?,K:=K,N:=X6 tk,f:=⟨default,default,0,0,.s,[]⟩,B:=[],O:=[]}
section
variable {K:pn}{s:Sp}{tk:ao (aB×Tx)}{base:eI}{mg mb:ft->aJ bz}
theorem Vm (h:Zj K C):TC K C:=by
 refine an7 h λg f e d c b a=>?_;refine ⟨g,f,Ul e,d,λx=>?_⟩;cases x with
 |ts=>exact sL c
 |A5=>exact sL b
 |r8=>exact sL a
theorem YD (h:stB a N P):N=ax\/∃v,a=.l v/\P v:=by
 cases a with
 |l v=>exact .y (bQ v af h)
 |_=>exact .C h
theorem acF (X:K.In base) (j:base.Ns dv mg) (d:∀x:ft,x≠"__name__"->mb x=zA x) (h:zS (gB K s tk) s.t.d.a) (l:s.t.a.f i=ah x) (n:s.d[i]?=ah a) :
  ∃v,(mg x=ah v\/(mg x=aq/\mb x=ah v))/\∀h ρ,(∀t y,X6 tk t=ah y->ρ.d t=ah y)->base.jC h->RV base h ρ a v:=by
 refine bf (iP.g l) λy g e=>?_;subst e;refine bf (dP (sQ h (oK g))) λu r h=>?_;obtain rfl:=aK (g.h.b r);rw [n] at h;rcases YD h with h|⟨v,rfl,h⟩
 ·refine bf (dP h) λo f h=>?_;apply gl;intro z;refine bf (dP h) λv q h=>?_;exact bQ v (.C (mg_of X j (dw q f))) (λw ρ c m=>Ub X m c _ _ h)
 ·refine bf (dP h) λT f h=>?_;refine tP h λb k=>?_;rcases aZ.g b with b|b
  all_goals
   refine tP b λb p=>?_;obtain rfl:=aX b;obtain rfl:=GR f;rw [v3 p] at k ⊢;refine bQ _ (.y ⟨ET X j (sL k),?_⟩) (λh ρ _ _=>af);refine aA (d _ (by decide +kernel)) ?_;decide +kernel
theorem YG (X:K.In base) (m:base.Ns dv mg) (T:base.Ns j1 mb) (v:base.NoLimit) (g:∀x:ft,x≠"__name__"->mb x=zA x) (h:YH K s tk) (FD:∀(k:aB) d vs,s.a[k]?=ah (d,vs)->∃p,FnC K s.t k d vs p) :
  oZ (Kb prog w base K s tk)/\rq (Kb prog w base K s tk) s.b s.t.a mg mb/\∀k d,s.D k=ah d->∃F,GK base s.t k d F:=by
 refine Vs h λh1 h2 h3 Z Y W=>?_;refine Dy Y λb1 b2 b4=>?_;have L:∀{k:aB} {x:ft},s.t.a.b k=ah x->∃a,s.t.b[k]?=ah a/\elO (s.b.a k) (v7 (Ot K dv x) a&&jO (K.j a) λo=>jO (Yc o.U) λ_=>ax)
   (λi=>jO s.c[i]? λC=>v7 (xB K (.t C) x) a&&(Kz (TL K (.t a)) "function"&&(J1 K (.t a)&&(!(kn (cN .ts) x)&&(!(kn (cN .A5) x)&&!(kn (cN .r8) x)))))):=λe=>by
  apply gl;intro r;refine bf (iP.g e) λy n c=>?_;subst c;refine bf (dP (sQ h2 (oK n))) λM l h=>?_;obtain rfl:=aK (n.h.b l);exact dP h
 refine ⟨⟨X,λi C B=>Vm (dz.g W C (eQ B)),?_,v⟩,⟨m,T,λi x a e V=>acF X m g h1 e V,λk x e A=>?_,λk x i C e A B=>?_,λi x e=>?_,λb=>⟨ET X m (sL (dz.g b1 b (eQ (i:=b.ctorIdx) (by cases b<;>rfl)))),?_⟩,λk f=>?_,⟨ET X m (sL b2),?_⟩⟩,λk d P=>?_⟩
 ·obtain ⟨o,O⟩:=Option.isSome_iff_exists.g b4;show (base.f pg).kI;exact aA (X _ _ O) af
 ·apply gl;intro r;refine bf (L e) λa l h=>?_;have h:=A▸h;refine tP h λt j=>?_;refine bf (dP j) λo u j=>?_;refine bf (dP j) λfd J _=>?_;exact IM a o fd l (mg_of X m (tH t)) (X _ _ u) (KZ J)
 ·apply gl;intro r;refine bf (L e) λa l h=>?_;rw [A] at h;refine bf (dP h) λC' u h=>?_;obtain rfl:=aK (u.h.b B);refine Vs h λt j H G D g6=>?_;refine U2 a l (tH t) (Fx j) H (λy=>?_);cases y with
  |ts=>exact C1 G
  |A5=>exact C1 D
  |r8=>exact C1 g6
 ·apply gl;intro r;refine bf (iP.g e) λy n c=>?_;subst c;refine bf (dP (sQ h3 (oK n))) λM l h=>?_;obtain rfl:=aK (n.h.b l);refine bf (dP h) λC u h=>?_;refine Vt h λt j H h=>?_;refine U2 C u (mg_of X m (tH t)) j H (λk f=>?_);rw [f] at h;apply gl;intro r;refine bf (dP h) λa J h=>?_;refine tP h λG D=>?_;exact l4 a J (tH G) (Fx D)
 ·cases b<;>(refine aA (g _ (by decide +kernel)) ?_;decide +kernel)
 ·have z:k<s.t.e.a:=by
   apply gl;intro r;cases q:s.t.e[k]? with
   |some b=>exact oK q
   |none=>
    have f:(s.t.e[k]?).l aw:=f;have f:=q▸f;cases f
  rcases aZ.g (sQ Z z) with q|q
  ·have q:=f▸q;cases q
  ·exact jE.g q
 ·refine aA (g _ (by decide +kernel)) ?_;decide +kernel
 ·refine bf (iP.g P) λc N I=>?_;obtain ⟨d',vs⟩:=c;subst I;obtain ⟨p,h⟩:=FD k d' vs N;exact h.E X
end
open PySem PySem.Calls PyProof.Rows PySem.SeqAt PySem.W PySem.W.X
theorem OU (q:IntsAre vs a):iM base h ρ (a.d .d) vs:=by
 induction q with
 |nil=>exact (af:_=[])
 |cons n t i b=>exact jf _ _ af gz b
noncomputable def tkB (l:ao (aB×Tx))(m:aB):bC:=match l with
 |[]=>ax
 |(t,_)::r=>cL t m&&tkB r m
theorem Yz (h:tkB l m=ax)(b:m<=t):X6 l t=aq:=by
 induction l with
 |nil=>rfl
 |cons p r a=>
  have h:=d5 h;show kr (aM p.1 t) _ _=_;cases e:aM p.1 t with
  |false=>exact a h.2
  |true=>exact bZ (aD e) (b5 (aS (aa h.1) b))
noncomputable def YU (o:aJ (aJ bz))(P:bz->bC):bC:=jO o λo=>jO o P
noncomputable def plO (d:Data):bC:=match d with
 |.plain=>ax
 |_=>aw
theorem YK (h:plO d=ax):d=.plain:=by
 cases d with
 |plain=>rfl
 |_=>exact (bJ h).e
noncomputable def YC (K:pn)(P:eH):bC:=jO (K.j P) λo=>pH o.cls&&(o.dict.isNone&&(o.slots.isEmpty&&jO (flO o.U) λa=>a.isEmpty))
theorem TY {K:pn}(h:YC K P=ax):K.j P=ah {cls:=.s,data:=.T #[]}:=by
 refine bf (dP h) λa e h=>?_;obtain ⟨g,f,d,c⟩:=a;refine Vt h λl k j h=>?_;refine bf (dP h) λb m i=>?_;exact aA e (aA (show g=.s from Dj l) (aA (show f=aq from jE.g k) (aA (show d=.T b from G6 m) (aA (show c=#[] from uU.g j) (aA (uU.g i) af)))))
noncomputable def cdB (K:pn)(d:bz):bC:=jO (Vw d) λc=>jO (K.j c) λo=>jO (Yw o.cls) λb=>jO (flO o.U) λa=>jO a[11]? λv=>jO (Vw v) λP=>
 bg (b="code")&&(YC K P&&(!(aM c P)&&(!(aM P cStatics)&&(jO (stO (a.l 18 .s)) (λz=>ax)&&(jO (inO (a.l 7 .s)) (λz=>ax)&&(jO (boO (a.l 9 .s)) (λz=>ax)&&jO (inO (a.l 10 .s)) λz=>ax))))))
noncomputable def bmB (K:pn):bC:=YU (Ot K dv "__builtins__") λv=>jO (Vw v) λa=>jO (K.j a) λo=>Kz (ah o.cls) "module"&&(jO o.dict (λd=>aM d j1)&&(plO o.U&&!(aM a j1)))
noncomputable def lwB (K:pn) (a:eH):bC:=jO (K.j a) λo=>jO (Yc o.U) λb=>cdB K b.code&&(bmB K&&IL (Ot K dv "all"))
theorem Uh {a b:aB}(h:(!(aM a b))=ax):a≠b:=λq=>by rw [q,gU] at h;injection h
theorem YP {K:pn} (X:K.In base) (B:rq c T N t u) (l:base.Ns dv t) (m:∀x:ft,x≠"__name__"->u x=zA x) (h:lwB K a=ax):∀o n,base.f a=ah o->o.U=.func n->N6 base n.code t u:=by
 intro o n J f;refine gl ?_;intro M;refine bf (dP h) λo' e1 h=>?_;obtain rfl:=aK (J.h.b (X _ _ e1));refine bf (dP h) λZ e2 h=>?_;have f:=KZ e2▸f;injection f with f;subst f;refine Dy h λb d L=>?_;refine ⟨?_,⟨ET X l (sL L),?_⟩,B.j .g,B.j .e⟩
 ·refine gl ?_;intro M;refine bf (dP b) λc c1 b=>?_;refine bf (dP b) λs A b=>?_;refine bf (dP b) λty c3 b=>?_;refine bf (dP b) λq z b=>?_;refine bf (dP b) λv y b=>?_;refine bf (dP b) λP c6 b=>?_;refine an8 b λd1 d2 d3 d4 j i p g=>?_;refine bf (dP j) λf1 j _=>?_;refine bf (dP i) λf2 i _=>?_;refine bf (dP p) λf3 p _=>?_;refine bf (dP g) λf4 g _=>?_;obtain ⟨F,j⟩:=Sa j;obtain ⟨D,i⟩:=KR i;obtain ⟨C,g⟩:=KR g;obtain rfl:=Ap c6;have r:=X _ _ (TY d2);refine bf (dP d) λw Y d=>?_;refine bf (dP d) λw W d=>?_;refine bf (dP d) λbm V d=>?_;refine bf (dP d) λG O d=>?_;refine Dy d λI k d=>?_;have e:=d5 d;refine bf (dP k) λdd k H=>?_;refine Y9 c P bm G (Ap c1) ⟨s,q,f1,F,f2,D,f3,f4,C,_,X _ _ A,G6 z,?_,j,i,Sr p,g,r,af,kN,Uh d3⟩ ⟨yg s q (X _ _ A) ?_ (G6 z) y,r⟩ (Uh d4) ⟨l,?_,Uh e.2,X _ _ O,aK (Fx I),?_,YK e.1⟩
  ·refine aA Array.getD_eq_getD_getElem? (aA y ?_);rfl
  ·exact aA (GR c3) (aA (aX d1) af)
  ·subst W;exact aA (mg_of X l Y) (aA (Ap V) af)
  ·exact aA k (aA (aD H) af)
 ·refine aA (m _ (by decide +kernel)) ?_;decide +kernel
theorem OP {K:pn}
  (X:K.In s₁.c) (H:s₁.c.Ns dv mg) (T:s₁.c.Ns j1 M) (B:s₁.c.NoLimit) (A:∀x:ft,x≠"__name__"->M x=zA x)
  (h1:YH K s tk=ax) (h5:∀(k:aB) d vs,s.a[k]?=ah (d,vs)->∃p,FnC K s.t k d vs p) (Z:tkB tk m=ax) (Y:lwB K a=ax)
  (P:0<m) (L:Laid RR w u s₁ [ofPy (PyData.list (j.d PyData.int))] [.t l] as) (V:s₁.c.IsList l i.N) (W:IntsAre i j) (z:j.a<=63) (ZT:u.D=m) (r:s₁.gens=#[])
  (F:n<=200) (C:s.t.b[k]?=ah a) (f:∀cls,c.raises b cls=aw) (q:c.post b (.bool ax) b=ax)
  (h:OQ s.b s.D n k [.j (j.d .d)]) :
  bc (rM prog w) callerA (k6 (.t a) [.t l]) (λv s'=>GoodWG c cl y b s₁ (.ok (.ret v)) s') (λe s'=>GoodWG c cl y b s₁ (.error e) s') s₁:=by
 have D:m<=s₁.D:=script_toks L ZT;refine vf (YG (prog:=prog) (w:=w) X H T B A h1 h5) λO I FD=>?_;refine enter_call ?_;refine TV (G:=Kb prog w s₁.c K s tk) O I FD (n:=n) (k:=k) af af af (ab (aj (ar (bP 3 F) _) 10) (by decide)) (aQ (aj (ar (bP 13 F) 4) 200) (by decide)) (aS P D)
  (λt N=>Yz Z (ab D N)) C h (.ZC (yg l i.N af ⟨0,(script_obj L V)⟩ (OU W) ?_)) (.of_eq r) (YP X I H A Y) ?_
 ·rw [ay];exact ab z (aF 63 999937)
 intro s' o g J;exact fK (.C (UY _ (.bool ax) [] af f (.bool ax) q (λ_=>⟨jz,λa C=>by simp at C⟩))) o J g
open PySem
noncomputable def gl1:ao AV:=[.j (P.Lv.d .c),.f (P.oy.d .c),.l (.v "int"),.f [.c P.hK,.c P.hU,.c P.yC,.c P.DG,.c P.DF],.f [.c [61],.c [60,62],.c [60],.c [60,61],.c [62],.c [62,61]],.f [.f [P.BW 0,.c (P.pT 0)],.f [P.BW 1,.c (P.pT 1)]],.f (P.kf.d P.qX),.f (P.qR.d P.qX),.f (P.nL.d P.qX),.l (.v "tuple")]
noncomputable def Vr:aB->AV->ao Tx
 |n+1,.f l=>l.kJ (Vr n)
 |n+1,.j l=>l.kJ (Vr n)
 |_,.c s=>[s]
 |_,_=>[]
noncomputable def tk0:(y:ao (aB×Tx))×' y=([(191,22),(214,6),(601,5),(607,6),(614,8),(623,10),(634,23),(658,8),(667,9),(677,6),(684,10),(695,24),(720,24),(745,24)].kJ λp=>(ew p.2).d (p.1+·)).zip (gl1.kJ (Vr 20)):=⟨_,by conv=>rhs;reduce⟩
noncomputable def tk1:ao (aB×Tx):=tk0.1
noncomputable def tb0:(y:Tb×ao (aJ aB)×ao (ao Tx))×' y=(⟨gnN,fnN.1.d (·.2),cnN,[23,37,44,51,58,65,72,79,86,93,100,107,112,126,171,185,192,197,204,211,218,225,239,253,260,267,274,133,138,145,150,157,164,246,391,398,405,412,419,426,431,438],fnN.1.d λp=>aM p.1 0⟩,fnN.1.d (λp=>match p.1 with
 |0=>aq
 |k+1=>ah k),(ew 42).d vrO):=⟨_,by conv=>rhs;reduce⟩
noncomputable def X3:Tb:=tb0.1.1
noncomputable def zJ:Sp:=⟨X3,gl1,[115,228],[ah 1,ah 15],tb0.1.2.1,(irs.1.K 41++[YZ]).zip tb0.1.2.2⟩
open PySem PySem.W
noncomputable def Iz:ao RW:=fns.d (·.2.2)
abbrev DV:=cO×ao Tx
noncomputable def tr2 (p:RW)(d:DV):ao mJ:=rV p.1 d.1.a p.2.2
noncomputable def bd1 (q:ft)(p:RW)(d:DV):(n:aB)×Cur (Sem (ao (ft×bz))) n:=⟨d.1.b,Lb d.1.b λvs=>ES (skl q p.2.1 .s .s) ⟨vs,[]⟩⟩
noncomputable def bd2 (p:RW)(d:DV):(n:aB)×Cur (Sem (ao (ft×bz))) n:=⟨d.1.b,Lb d.1.b λvs=>ij ((p.2.1.args.d (·.arg)).zip vs)⟩
theorem abN:vW tr2 Iz zJ.a=Iz.d (·.2.2):=by kernel_rfl
theorem abQ:vW (λp d=>sI p.1 X3 d.2 d.1.a p.2.2) Iz zJ.a=Iz.d λ_=>ax:=by kernel_rfl
theorem acN (q:ft):vW (bd1 q) Iz zJ.a=vW bd2 Iz zJ.a:=by kernel_rfl
theorem abR:Iz.a=zJ.a.a:=by kernel_rfl
noncomputable def G5 (h:eI):pn:=(ew h.q.k).jB λa=>(h.f a).d λo=>(a,o)
theorem Bw {h:eI}:∀{l:ao aB},(l.jB λa=>(h.f a).d λo=>(a,o)).j a=ah o->h.f a=ah o
 |[],e=>by cases e
 |b::l,e=>by
  rw [mL] at e;cases q:h.f b with
  |none=>rw [q] at e;exact Bw e
  |some ob=>
   rw [q] at e;have e:GQ a ((b,ob)::_)=ah o:=e;rw [iH] at e;cases z:a==b with
   |true=>rw [z] at e;cases aK e;cases vX z;exact q
   |false=>rw [z] at e;exact Bw e
theorem U5 (h:eI):(G5 h).In h:=λa o e=>Bw e
noncomputable def hpB (h:eI):bC:=YH (G5 h) zJ tk1&&(lwB (G5 h) 438&&zS (λk=>jO zJ.a[k]? λd=>fnB (G5 h) X3 k d.1 d.2) 42)
noncomputable def OF (h:eI):ao (RW×bz×bz):=(ew 42).d λk=>prt (O1 (G5 h) X3 k)
theorem acG (h1:zS (λk=>jO zJ.a[k]? λd=>fnB (G5 h) X3 k d.1 d.2) 42=ax)(h2:OF h=Iz.d λp=>(p,fW,fW))(k:aB)(d:cO)(vs:ao Tx)(e:zJ.a[k]?=ah (d,vs)):∃p,FnC (G5 h) zJ.t k d vs p:=by
 have hk:k<42:=oK e;have hp:Iz[k]?=ah Iz[k]:=bV (abR▸hk);obtain ⟨d',e',hb⟩:=dP (sQ h1 hk);cases aK (e.h.b e');have t:=aW (λl=>l[k]?) abN;have g:=aW (λl=>l[k]?) abQ;have p:=aW (λl=>l[k]?) h2;have b:=λq=>aW (λl=>l[k]?) (acN q);simp only [List.getElem?_zipWith,cS,hp,e] at t g b;rw [cS,hp] at p;have p:((ew 42)[k]?).d _=_:=(cS ..).h.b p;rw [List.getElem?_range hk] at p;exact ⟨Iz[k],hb,aK p,λq=>eq_of_heq (Sigma.mk.inj (aK (b q))).2,aK t,aK g⟩
open PySem PySem.W PySem.W.X PySem.W.Fast
noncomputable def yf1 (s:bH):aB×bC×ao (RW×bz×bz):=(s.D,hpB s.c,OF s.c)
noncomputable def ya1:aB×bC×ao (RW×bz×bz):=(898,ax,Iz.d λp=>(p,fW,fW))
theorem Ui {α β γ:Type}{o:aJ α}{f:α->β}{g:α->γ}{a:β}{b:γ}(h:o.d f=ah a)(h':o.d g=ah b):o.d (λs=>(f s,g s))=ah (a,b):=by
 cases o with
 |none=>cases h
 |some x=>cases aK h;cases aK h';rfl
theorem k1a:∀w:lA,(tL PySem.Challenge.pw_sx_r130_1 w 6000).d (tw4187177175401517315 q1 Bn (importedModules PySem.Challenge.pw_sx_r130_1.main.body) (λs=>recOk [] s) ax)=ah (openGood q1 Bn):=λw=>by kernel_rfl
theorem k1b:∀w:lA,(tL PySem.Challenge.pw_sx_r130_1 w 6000).d (λs=>s.D)=ah 898:=λw=>by kernel_rfl
theorem k1c:∀w:lA,(tL PySem.Challenge.pw_sx_r130_1 w 6000).d (λs=>YH (G5 s.c) zJ tk1)=ah ax:=λw=>by kernel_rfl
theorem k1e:∀w:lA,(tL PySem.Challenge.pw_sx_r130_1 w 6000).d (λs=>lwB (G5 s.c) 438&&zS (λk=>jO zJ.a[k]? λd=>fnB (G5 s.c) X3 k d.1 d.2) 42)=ah ax:=λw=>by kernel_rfl
theorem k1f (w:lA):(tL PySem.Challenge.pw_sx_r130_1 w 6000).d (λs=>hpB s.c)=ah ax:=by
 have h:=k1c w;have h':=k1e w;revert h h';cases tL PySem.Challenge.pw_sx_r130_1 w 6000 with
 |none=>intro h;cases h
 |some s=>exact λh h'=>aW ah (ae.i ⟨aK h,aK h'⟩)
theorem k1d:∀w:lA,(tL PySem.Challenge.pw_sx_r130_1 w 6000).d (λs=>OF s.c)=ah (Iz.d λp=>(p,fW,fW)):=λw=>by kernel_rfl
theorem hl:LeftO PySem.Challenge.pw_sx_r130_1 q1 Bn (λs=>recOk [] s) yf1 (λ_=>ya1) 6000:=λw=>by
 rw [Pg,te4187177175401517315];exact Ui (k1a w) (Ui (k1b w) (Ui (k1f w) (k1d w)))
theorem TM {α:Type}{n:aB}{f g:aB->α}(h:(ew n).d f=(ew n).d g)(k:aB)(hk:k<n):f k=g k:=by
 have:=aW (λl=>l[k]?) h;simp only [cS,List.getElem?_range hk] at this;exact aK this
namespace P
theorem aa8:Core zJ.b zJ.D where
 d:=TM af
 c:=TM af
 g:=af
 f:=af
 i:=af
 j:=af
theorem aaG:w4 zJ.b zJ.D where
 toCore:=aa8
 m:=af
 o:=af
 p:=af
 h:=af
 q:=af
 r:=af
 s:=af
 t:=af
 u:=af
 v:=af
 w:=af
 x:=af
 y:=af
 z:=af
 E:=af
 a:=λk h1 h2=>by
  have:=TM (n:=42) (f:=λk=>kr (bM 27 k) (zJ.b.a k) aq) (g:=λ_=>aq) af k (wI (aa h2));rw [h1] at this;exact this
 A:=af
 k:=af
 F:=af
 B:=af
 G:=af
 H:=af
 I:=af
end P
theorem YJ (nts:ao aU):OQ zJ.b zJ.D 200 41 [.j (nts.d .d)]:=P.adb P.aaG nts
end Mine.Internal
open PySem PySem.W PySem.W.X PySem.W.Fast PySem.W.ZRun
namespace Mine.Internal
theorem df:(defOf q1 "law").kI=ax:=by kernel_rfl
noncomputable def d1:DefRec×ao (ft×fU):=(defOf q1 "law").get df
theorem dfe:defOf q1 "law"=ah (d1.1,d1.2):=(Option.some_get df).h
theorem hp1:PySem.Challenge.pw_sx_r130_1.theDef "law"=ah (d1.1.params,d1.1.body,d1.1.scope):=by rw [te10235530238920679567];kernel_rfl
theorem hk1:kwWritten? d1.1.params.kwonlyargs d1.1.params.kw_defaults=ah d1.2:=by kernel_rfl
theorem acO {h h':eI} {mg:ft->aJ bz} {fa:eH} (hs:YH (G5 h) zJ tk1=ax) (X:(G5 h).In h') (hg:h'.Ns dv mg) (hm:mg "law"=ah (.t fa)):fa=438:=by
 have f:(v7 (Ot (G5 h) dv (dq [108,97,119])) 438&&_)=ax:=sQ (k:=41) (d5 (d5 hs).2).1 (by decide);have e:dq [108,97,119]=("law" : ft):=by kernel_rfl
 have:=mg_of X hg (tH (d5 f).1);rw [e,hm] at this;cases this;rfl
end Mine.Internal
theorem PySem.Challenge.cw_sx_r130_1_holds : PySem.Challenge.rw_sx_r130_1.Holds := by
 refine holds_law Mine.Internal.ws1 λsaid=>?_;refine holds_openX (q:=Mine.Internal.q1) (loose:=Mine.Internal.Bn) (Xt:=λs=>recOk [] s) (XP:=λ_ _=>True) (Yf:=Mine.Internal.yf1) (Ya:=λ_=>Mine.Internal.ya1) (N:=6000) Mine.Internal.hl (λ_ _=>kN) (λ_ _ _ _ _=>kN) Mine.Internal.dfe Mine.Internal.hp1 Mine.Internal.hk1 (λs e=>recFacts_of e) af said (by decide +kernel) ⟨af,af,af,af,af,by decide +kernel⟩ ⟨[.list []],by decide +kernel,by decide +kernel⟩ ?_;intro w s₀ s₁ mg mb G y fa o pm cd doc dV kV ho hd hcd hD hmg hg args vals as L hpre hlay hrd hwl hlo;refine Ground.open G ?_;intro T B D TE TW;have y1:s₀.D=898:=aW (·.1) y;have y2:=Mine.Internal.d5 (aW (·.2.1) y:Mine.Internal.hpB s₀.c=ax);have y4:=Mine.Internal.d5 y2.2;have y3:Mine.Internal.OF s₀.c=_:=aW (·.2.2) y;have KX:(Mine.Internal.G5 s₀.c).In s₁.c:=(Mine.Internal.U5 _).keeps L.keeps;cases Mine.Internal.acO y2.1 KX T.g hmg
 wrow_args hpre hlay hrd hwl hlo
 refine Mine.Internal.OP (s:=Mine.Internal.zJ) (tk:=Mine.Internal.tk1) (n:=200) (k:=41) (m:=898) KX T.g T.b T.nolimit T.builtins y2.1 (Mine.Internal.acG y4.2 y3) (by kernel_rfl) y4.1 (by decide) L (by assumption) (by assumption) (by omega) y1 hg (by decide) af (by intro cls;rfl) ?_ (Mine.Internal.YJ _)
 first|rfl|wrow_post
