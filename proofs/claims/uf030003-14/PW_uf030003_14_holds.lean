import PyProof.Rows.All
import OpenK.AllK
import Wide.All
import PySem.Challenge.RW_uf030003_14
open Nat renaming le_trans->aa,lt_of_lt_of_le->ah,lt_of_le_of_lt->aw,le_refl->az,le_add_left->aE,add_le_add_left->aI,reduceSub->aM,sub_self->aO,le_of_lt->aX,le_add_right->aY,le_of_eq->bf,lt_of_le_of_ne->bv,le_of_succ_le->bw,add_le_add_right->bz,min_eq_left->bF,ne_of_lt->bM,dvd_of_mod_eq_zero->bO,add_assoc->bQ,add_sub_cancel'->bY,add_lt_add_left->bZ,le_of_lt_succ->cq,lt_or_eq_of_le->cB,le_antisymm->cI,succ_le_succ->cL,lt_or_ge->cN,zero_lt_of_lt->cU,zero_le->cX,sub_add_cancel->cY,add_le_add->cZ,le_add_right_of_le->c6,lt_irrefl->c9,sub_le->dg,not_le_of_lt->di,mul_mod->dj,le_sub_one_of_lt->dl,add_sub_cancel_left->dm,le_of_add_right_le->dC,add_comm->dD,add_right_comm->dK,sub_one_lt_of_lt->dS,succ_le_of_lt->dW,sub_pos_of_lt->dX,le_succ_of_le->dY,eq_of_le_of_lt_succ->dZ,min_le_left->d4,one_le_iff_ne_zero->d_,le_of_dvd->eu,min_le_right->eA,pos_of_ne_zero->eD,lt_of_lt_of_eq->eE,lt_trans->eP,lt_succ_of_le->eR,lt_add_of_pos_right->eY,le_of_not_lt->eZ,le_max_right->e9,add_sub_cancel->fj,add_lt_of_lt_sub'->fA,lt_of_succ_lt->fC,add_sub_assoc->fD,le_sub_of_add_le->fJ,one_le_of_lt->fN,lt_succ_self->fO,ble->fU,eq_zero_or_pos->fZ,exists_eq_add_of_le->f_,mul_comm->gr,lt_succ_of_lt->gu,eq_of_beq_eq_true->gE,mod_eq_of_lt->gI,lt_of_not_le->gJ,succ->gQ,sub_mod_eq_zero_of_mod_eq->gR,mul_le_mul_right->gS,mul_le_mul_left->g8,add_zero->hA,not_lt->hV,le_of_add_le_add_right->hY,lt_trichotomy->iB,add_left_comm->iC,mul_assoc->iE,sub_lt_of_lt->iI,min_eq_right->iJ,sub_eq_zero_iff_le->iO,ne_of_gt->iP,mod_eq_zero_of_dvd->iQ,eq_zero_of_not_pos->iR,div_lt_self->iW,le_div_iff_mul_le->i8,pow_le_pow_right->jf,pow_add->jg,one_pos->jh,one_mul->ji,le_succ->jm,add_sub_add_left->jo,add_le_of_le_sub->jp,sub_lt_sub_left->jC,le_min->jQ,succ.inj->j8,pow_succ->j9,lt_of_succ_le->j_,lt_of_sub_pos->ke,le.intro->kg,beq->kh,not_lt_of_le->kJ,mod_mod->kT,not_lt_zero->k8,div_add_mod->k9,sub_lt->lF,dvd_trans->lV,eq_zero_of_zero_dvd->l7,zero_add->mx,succ_pos->my,ne_of_beq_eq_false->mz,lt_of_add_right_lt->mA,le_of_succ_le_succ->mB,gcd->mC,lt_of_sub_ne_zero->mT,le_sub_of_add_le'->mU,div_lt_iff_lt_mul->mV,two_mul->nj,sub_le_of_le_add->nr,pow_mod->nv,mul_two->nz,mul_le_of_le_div->nA,le_add_of_sub_le->nB
open PySem renaming wpAny_bind->ad,sizeLine->ag,wpAny_mono->aD,wpAny_pure->aJ,wpAny->aP,starEach->bD,wpAny_field->c_,recursionLimit->de,mainGlobals->dA,wpAny_execs_cons->dM,swapsWith->dQ,wpAny_truthy_bool->d6,wpAny_call_entry->eH,builtinLookup_eq_fast->eM,wpAny_standAt->fG,wpAny_rule->fQ,wpAny_execs_nil->gg,typeLookup_type->gh,wpAny_setField_rec->gq,wpAny_loadPart_at->gG,wpAny_Assign_Name->gH,exec_Return_some->gZ,wpAny_holding->g7,wpAny_loadName_local->g_,wpAny_specialOf->hO,wpAny_newObj_type->iN,wpAny_storeName_local->jB,wpAny_pyIter_tuple->kG,wpAny_call->kH,codeAny_call_cells->kI,wpAny_pyIter_list->kZ,wpAny_assign_Name->k7,wpAny_items_cons->lD,wpAny_BinOp->lK,wpAny_setField->mu,wpAny_Name->mv,call_meets->mw,wpAny_newList->ng,wpAny_attempt->nh
open PySem.Str renaming ofString->ae
open List renaming prefix_refl->af,getElem?_eq_getElem->ak,replicate->am,getElem?_map->aq,length_append->aC,map_cons->aF,size_toArray->aH,all_eq_true->aN,map_append->aQ,mem_cons_self->aR,toArray->aW,take_of_length_le->be,append_assoc->bg,length_set->bh,drop_eq_getElem_cons->bp,mem_of_mem_take->bq,prefix_append->bE,range->bG,length_eq_zero_iff->bI,getElem?_append_left->bJ,mem_of_mem_drop->bP,take_append_drop->bU,length_take->b9,length_cons->b_,mem_range->ch,pairwise_cons->cy,mem_filterMap->cz,mem_cons->cA,map_map->cE,map_congr_left->cF,not_mem_nil->cJ,length_drop->cK,take_add_one->cM,getElem_of_mem->cQ,set_append_right->cR,pairwise_append->cV,getElem?_append_right->cW,drop_append_of_le_length->c8,countP_cons->dH,nodup_append->dU,drop_eq_nil_of_le->d7,Perm.append_right->d9,length->eg,drop_drop->eC,mem_append_right->eF,Pairwise.sublist->eG,pairwise_iff_getElem->eI,getElem?_eq_none_iff->eJ,sum_append->eK,mem_append_left->eO,length_pos_iff->eU,nodup_nil->eV,getElem_mem->eW,getElem?_set_self->fg,nodup_cons->fo,dropLast_concat_getLast->fp,cons.inj->fq,length_singleton->fv,Perm.append_left->fw,reverse_append->fP,mem_singleton->fV,filter_cons_of_pos->f8,filter_cons_of_neg->f9,length_range->gj,perm_append_comm->gB,take_append_of_le_length->gM,length_nil->gV,cons.injEq->gW,append_nil->gX,getElem?_range->g0,map_nil->g9,drop->hF,getElem?_take->hG,getElem?_drop->hH,foldl_append->iw,drop_sublist->iz,rec->iF,getElem?_cons_zero->iG,any_eq_true->iH,mem_append->iS,foldl_cons->iT,countP_nil->iU,length_filter_le->iX,contains_iff_mem->iY,take_left->i9,contains_eq_mem->i_,filterMap_cons->jy,sum_cons->jD,filter_append->jI,countP_append->jJ,pairwise_map->jX,mem_map->jY,getElem_take->jZ,getElem_drop->j4,getElem?_set->j5,Pairwise.nil->j7,take_length->ku,lookup_cons->kx,cons_append->ky,eq_nil_of_length_eq_zero->kK,prefix_rfl->kU,mem_filter->kW,foldr_cons->kX,take_take->lr,drop_zero->lu,drop_left->lw,append_cancel_left_eq->ly,length_erase_of_mem->lN,all_cons->lO,getElem?_replicate->lW,Perm->lX,length_pos_of_mem->l8,find?_cons_of_neg->l9,singleton_append->mD,length_replicate->mE,getElem?_toArray->mF,filterMap_append->mG,reverse_reverse->mW,mem_erase_of_ne->mX,map_id->mY,length_take_le'->mZ,getElem?_set_ne->m3,map_eq_nil_iff->nE,length_reverse->nF,filter_sublist->nG,append_toArray->nH
open Int renaming le_trans->ai,le_of_lt->aj,toNat->aG,emod_nonneg->aT,lt_of_le_of_lt->aU,eq_ofNat_of_zero_le->aV,le_add_of_nonneg_right->aZ,toNat_of_nonneg->bb,ofNat_le->br,mul_le_mul_of_nonneg_left->bH,lt_of_lt_of_le->bL,reduceLE->bV,ofNat_lt->bW,add_le_add_left->b8,toNat_natCast->cx,lt_trans->cH,le_refl->cS,natAbs->c5,natCast_ne_zero_iff_pos->dw,pow_succ->dE,ne_of_lt->dF,toNat_le->eh,mul_emod->er,toNat_lt->eS,natCast_dvd_natCast->e_,mul_le_mul->fc,le_add_one->fe,le_toNat->fk,natCast_mul->fu,sub_nonneg_of_le->fK,lt_of_add_one_le->fL,emod_emod_of_dvd->fM,natCast_pos->fW,natCast_add->fX,pow_zero->gx,add_nonneg->gz,le_of_not_gt->gK,ofNat_inj->gN,ofNat.inj->gO,eq_natCast_toNat->gU,sub_add_cancel->h_,not_lt->ie,natCast_nonneg->ig,one_mul->iD,natCast_ediv->iK,sub_eq_iff_eq_add'->iV,sub_le_self->iZ,ediv_nonneg->i3,mul_one->jq,lt_of_le_sub_one->jr,lt_iff_le_and_ne->jt,add_lt_add_left->jE,ofNat_sub->jK,mul_assoc->jL,lt_of_toNat_lt->jS,lt_toNat->kj,emod_eq_of_lt->ko,dvd_refl->kr,natCast_emod->kL,natCast_sub->k_,sub_left_lt_of_lt_add->lP,lt_irrefl->lY,dvd_of_emod_eq_zero->l_,mul_comm->mH,le_iff_lt_add_one->m6,sub_sub->nI,sub_one_lt_of_le->nJ,pow_add->nK,lt_add_one_of_le->nM,le_sub_one_of_lt->nN,add_one_le_of_lt->nO,add_lt_add_right->nP
open Prod renaming fst->al,mk.inj->iq,snd->ln,ext->mR
open PySem.Heap renaming get?_push_of_some->ay,get?_push_size->ba,lt_size->ci,SameBut->fh,ExtBut->iA,get?_update_self->i5,size_push->jc,HeldW->jM,size_update->kz,get?_update_other->md,SameBut.update->nR
open Bool renaming and_eq_true->aS,not_true->bC,not_false->bT,false_and->cj,not_eq_true'->cT,true_and->dB,or_eq_true->fS,eq_iff_iff->gY,false_ne_true->hJ,and_false->jd,and_eq_true_iff->je,or_eq_true_iff->jz,and_self->jF,false_eq_true->jN
open Array renaming length_toList->a_,toList_append->bX,getElem?_toList->cD,perm_iff_toList_perm->fF,toList_push->gc,toList_reverse->gL,toList_setIfInBounds->la,mk->lf
open PySem.Calls renaming Name_function_global->bk,loadGlobal_global->dh,loadGlobal_builtin->dL,docDef->iM,call_function_entry->lz
open PySem.PyData renaming depthAll->bo,eqv->bu,depth->bS,eqvAll->cP,strOk->ff,canLayAll0->jH,tuple->lL,int->mQ
open PySem.Env renaming kindOf->cC
open Option renaming none->da,some.injEq->dR,map_some->dT,map_eq_some_iff->d5,isSome_iff_exists->eN,bind_some->fH,isNone_none->jx,getD_some->jW,bind_eq_some_iff->lE,map_eq_none_iff->lM
open PySem.Value renaming ref->db,none->fE,ref.inj->gD,isInt->gF,builtin->ii,isInt_shape->jP,bool->kY
open PySem.Obj renaming mapSeq->fY,data_mapFields->hU,isFreed_of_fields->mS
set_option Elab.async false
set_option maxRecDepth 100000
set_option maxHeartbeats 8000000
section
set_option linter.all false
set_option genSizeOf false
set_option bootstrap.genMatcherCode false
local macro_rules | `(tactic| walk_at $s:str) => do
  let some n := [].lookup s.getString | Lean.Macro.throwUnsupported
  `(tactic| delta $(Lean.mkIdent (Lean.mkPrivateNameCore `PySem.Builtin.List.W1All (`PySem.Builtin ++ n))))
variable {a b q:Int}{e:PySem.Expr}{N i j k m t:Nat}{vs:List PySem.Value}{B h h':PySem.Heap}{S ι ι' ι1 ι2:List PySem.Addr}{s s' s0 s1:PySem.Shared}{A:PySem.Around}{env:PySem.Env}{E:PySem.Value->PySem.Shared->Prop}{es xs:List PySem.Expr}{pos:PySem.Pos}
namespace Mine
universe u v
theorem ya {α:Type u}{β:Type v}{l:List α}(f:α->β):(l.map f).length=l.length:=List.length_map f
theorem yb {α:Type u}{a b:α}(h:a∈[b]):a=b:=fV.mp h
theorem yc {α:Type u}{l:List α}{i:Nat}{a:α}(e:l[i]?=some a):a∈l:=List.mem_of_getElem? e
theorem yd {α:Type u}{a:α}{s t:List α}(h:a∈s++t):a∈s\/a∈t:=iS.mp h
theorem ye {n m:Nat}(h:fU n m=true):n<=m:=Nat.le_of_ble_eq_true h
theorem yf {α:Type u}{β:Type v}{x:Option α}{f:α->β}{b:β}(h:x.map f=some b):∃a,x=some a/\f a=b:=d5.mp h
theorem yg {α:Type u}{a b:α}{l:List α}(h:a∈b::l):a=b\/a∈l:=cA.mp h
theorem yh {α:Type u}{β:Type v}{f:α->β}{l:List α}{b:β}(h:b∈l.map f):∃a,a∈l/\f a=b:=jY.mp h
theorem yi {α:Type u}(y:α){a:α}{l:List α}(h:a∈l):a∈y::l:=List.mem_cons_of_mem y h
theorem yj {α:Type u}{a b:α}(h:some a=some b):a=b:=Option.some.inj h
theorem yk (a:Int){b:Int}(h:0<b):a%b<b:=Int.emod_lt_of_pos a h
theorem ym {α:Type u}{a:α}{i:Nat}{l:List α}(h:l[i]?=some a):∃h:i<l.length,l[i]=a:=List.getElem?_eq_some_iff.mp h
theorem yn {α:Type u}{a b:α}(h:a=b):a∈[b]:=fV.mpr h
theorem yo {α:Type u}{β:Type v}{f:α->β}{l:List α}{b:β}(h:∃a,a∈l/\f a=b):b∈l.map f:=jY.mpr h
theorem yp {α:Type u}{a:α}{s t:List α}(h:a∈s\/a∈t):a∈s++t:=iS.mpr h
theorem og {n:Nat}(b:0<=a) (h:a<(n:Int)):a.natAbs<n:=Int.natAbs_lt_natAbs_of_nonneg_of_lt b h
theorem vM {c:Int}(b:2<=a) (d:a<(2+(((aG (c-2)):Nat):Int))):a<c:=by obtain⟨n,e⟩:=aV (fK b);refine Int.lt_of_sub_lt_sub_right (c:=2) ?_;have k:=lP d;rw[e] at k ⊢;exact kj.mp (bW.mp k)
theorem zsub {a b c:Nat}(d:¬ ((a-1)=0)):a-1+b+(c+1)=a+b+c:=by obtain⟨n,rfl⟩:∃n,a=n+1:=⟨a-1,(cY (eZ λz=>d (by rw[Nat.lt_one_iff.mp z]))).symm⟩;rw[fj,<-bQ,dK n 1 b,dK]
theorem zmov {a b c:Nat}(d:2<=b):a+(b-1)+(c+1)=a+b+c:=by obtain⟨n,rfl⟩:∃n,b=n+1:=⟨b-1,(cY (bw d)).symm⟩;rw[fj,<-bQ,<-bQ,dK]
theorem zmod {d:Int}{c e:Nat}(h:d%2=(e:Int)) (k:Nat) (a:k+2<=c):c≠k+e:=λz=>absurd (z▸a) (di (bZ (bW.mp (h▸yk d (by decide))) k))
theorem z1t (b:0<=a):1<=aG (1+a):=(fk (gz (by decide) b)).mpr (aZ b)
theorem z30x {a:Nat}(c:a<=50) (d:b<=10^30-2000+(a:Int)):b<=10^30-2000+50:=ai d (b8 (br.mpr c) _)
theorem z6x {a:Nat}(c:a<=50) (d:b<=1000000+10*(a:Int)):b<=1000000+10*50:=ai d (b8 (bH (br.mpr c) (by decide)) _)
theorem z97 {a:Nat}(c:a<(2^62))(d:(aG b)<a):b<(2^63):=aU (Int.self_le_toNat b) (cH (bW.mpr (eP d c)) (by decide))
theorem z100:((1000000:Nat)<=((2:Nat)^(24:Nat))):=by simp
theorem z105:((0:Int)<((2:Int)^(62:Nat))):=by simp
theorem z107 {a:Nat}(c:a<(2^62))(d:0<=(b+(a:Int))):(-(2^63))<=b:=by simp;lia
theorem z108 {a:Nat}(c:a<(2^62))(d:b<(a:Int)):b<(2^63):=cH d (cH (bW.mpr c) (by decide))
theorem z126 {a:Nat}(c:(a:Int)<=b):a<=(aG b):=(fk (ai (ig a) c)).mpr c
theorem z138 {b:Nat}(c:0<=a):0<=(a+(b:Int)):=by lia
theorem z143 {a c:Nat}(d:a<=(aG b))(e:(2^200)<=c)(f:c<=a)(g:(aG b)<(10^32)):False:=by lia
theorem z197 {b:Nat}(c:0<=a)(d:a<(((b-1):Nat):Int)):(aG (1+a))<b:=by obtain⟨n,rfl⟩:=aV c;exact fA (bW.mp d)
theorem z199 {b:Nat}(c:0<=a)(d:a<(((b-1):Nat):Int)):2<=(b:Int):=br.mpr (ke (bW.mp (aU c d)))
theorem z203 {b:Nat}(c:0<=a)(d:a<(((b-1):Nat):Int)):(((b-1):Nat):Int)≠0:=by lia
theorem z209 {b:Nat}(c:2<=a)(d:a<(2+(b:Int))):(aG (a-2))<b:=(eS (fK c)).mpr (lP d)
theorem z212 (a:(1:Int)=(0:Int)):False:=by lia
theorem z218 {b:Nat}(c:2<=a)(d:a<(2+(((aG ((b:Int)-2)):Nat):Int))):a<(b:Int):=vM c d
theorem z226 {b:Nat}(c:2<=a)(d:a<(2+(((aG (((b:Int)-1)-2)):Nat):Int))):a<((b:Int)-1):=vM c d
theorem z230 {a:Nat}(c:a<=20000)(d:2<=b)(e:b<(a:Int)):(c5 b)<(2^64):=og (ai (by decide) d) (bL e (ai (br.mpr c) (by decide)))
theorem z232 {b:Nat}{c d:Int}(e:a<(b:Int))(f:(b:Int)=c)(g:c<=a*1):2<=d:=absurd (bL e (f▸jq a▸g)) (lY _)
theorem z233 {a:Nat}(c:a<=20000)(d:b<(a:Int)):b<(10^16):=bL d (ai (br.mpr c) (by decide))
theorem z234 {a:Nat}(c:a<=20000)(d:b<=(a:Int)):b<(10^16):=aU (ai d (br.mpr c)) (by decide)
theorem z236 {b:Nat}(c:2<=a)(d:a<(b:Int)):((b:Int)-1)=(((b-1):Nat):Int):=(jK (br.mp (ai (by decide) (aj (aU c d))))).symm
theorem z237 {b:Nat}(c:2<=a)(d:a<(b:Int)):(((b-1):Nat):Int)≠0:=λz=>iP (dX (bW.mp (aU (ai (by decide) c) d))) (gO z)
theorem z238 {b:Nat}(c:2<=a)(d:a<(b:Int)):0<(((b-1):Nat):Int):=bW.mpr (dX (bW.mp (cH (bL (by decide) c) d)))
theorem z244 {a:Nat}(d:1<=a)(c:a=(aG b)):(a:Int)=b:=by rw[c];exact bb (aj (kj.mp (c▸d)))
theorem z246 {b:Nat}(c:2<=a)(d:a<(b:Int)):(aG a)<b:=(eS (ai (by decide) c)).mpr d
theorem z248 {b:Nat}(c:2<=a)(d:a<((b:Int)-1)):2<=(b:Int):=by lia
theorem z249 {b:Nat}(c:a<((b:Int)-1)):a<=(b:Int):=by lia
theorem z260 (a:(0:Int)=(1:Int)):False:=by lia
theorem z262 {a:Nat}(c:a=4):(b%4)<(a:Int):=c▸yk b (by decide)
theorem z269 {b:Nat}(c:2<=a)(d:a*2<=(b:Int)):2<=b:=by lia
theorem z308 {a:Nat}(c:(a:Int)=2)(d:b≠(a:Int)):¬ (b=2):=Eq.mpr_not (congrArg (Eq b) (id (Eq.symm c))) d
theorem z338 {a b:Nat}{c:Int}(d:8<=a)(e:b<(aG (1+(c%5)))):(b:Int)<(a:Int):=bW.mpr (ah (ah e (eh.mpr (ai (b8 (aj (yk c (by decide:(0:Int)<5))) 1) (by decide)))) d)
theorem z341 {a b:Nat}{c:Int}(d:a=b)(e:b=(aG (1+(c%5)))):1<=a:=by rw[d,e];exact z1t (aT c (by decide))
theorem z342 {a b:Nat}{c:Int}(d:a=b)(e:b=(aG (1+(c%5)))):a<=5:=by rw[d,e];exact eh.mpr (show 1+c%5<=5 from b8 (Int.le_of_lt_add_one (show c%5<4+1 from yk c (by decide))) 1)
theorem z344 {a:Nat}(c:a<=50)(d:2<=b)(e:b<=((10^16)+(a:Int))):(c5 b)<(10^32):=og (ai (by decide) d) (aU e (aU (b8 (br.mpr c) _) (by decide)))
theorem z345 {a:Nat}(c:a<=50)(d:2<=b)(e:b<=(1000000+(10*(a:Int)))):(c5 b)<(10^32):=og (ai (by decide) d) (aU e (aU (b8 (bH (br.mpr c) (by decide)) _) (by decide)))
theorem z350 {a:Nat}(c:a<=50)(d:2<=b)(e:b<=(1000000+(10*(a:Int)))):(c5 b)<10000000:=og (ai (by decide) d) (aU (ai e (b8 (bH (br.mpr c) (by decide)) _)) (by decide))
theorem z352 {a:Nat}(c:a<=50)(d:b<=(((10^30)-2000)+(a:Int))):b<=(10^32):=ai (z30x c d) (by decide)
theorem z359 {b:Nat}(c:a<=((10^16)+(b:Int))):a<=((10^16)+(((b+1):Nat):Int)):=ai c (b8 (br.mpr (jm b)) _)
theorem z360 {b:Nat}{c:Int}(d:(2<=a)/\((a<=(1000000+(10*(b:Int))))/\((1<=c)/\(c<=100)))):(2<=a)/\((a<=(1000000+(10*(((b+1):Nat):Int))))/\((1<=c)/\(c<=100))):=⟨d.1,ai d.2.1 (b8 (bH (br.mpr (jm b)) (by decide)) _),d.2.2⟩
theorem z361 {b:Nat}(c:a<=(((10^30)-2000)+(b:Int))):a<=(((10^30)-2000)+(((b+1):Nat):Int)):=ai c (b8 (br.mpr (jm b)) _)
theorem z365 {b:Nat}{c:Int}(d:a<=((10^16)+(b:Int))):(a+1-(c%2))<=((10^16)+(((b+1):Nat):Int)):=by simp;lia
theorem z367 {b:Nat}{c:Int}(d:a<=((10^16)+(b:Int))):(a+(c%2))<=((10^16)+(((b+1):Nat):Int)):=by simp;lia
theorem z370 {a:Nat}(c:a<=50)(d:b<=(((10^30)-2000)+(a:Int))):b-1<=(10^30):=ai (iZ _ (by decide)) (ai (z30x c d) (by decide))
theorem z371:((1:Int)<=((10:Int)^(30:Nat))):=by simp
theorem z372 {a:Nat}(c:a<=50)(d:b<=(((10^30)-2000)+(a:Int))):b<=(10^30):=ai (z30x c d) (by decide)
theorem z374 {b:Nat}(c:a<(b:Int)):a<(b:Int):=by omega
theorem z375 {b:Nat}(c:0<=a)(d:a<(b:Int))(e:b=0):False:=by lia
theorem z378 {b:Nat}(c:0<=a)(d:a<(b:Int)):1<=b:=by lia
theorem z381 {b:Nat}{c:Int}(d:a<=(1000000+(10*(b:Int)))):(a+1+(c%9))<=(1000000+(10*(((b+1):Nat):Int))):=by simp;lia
theorem z383 {a:Nat}(c:a<=50)(d:b<=(1000000+(10*(a:Int)))):b<(10^32):=aU (z6x c d) (by decide)
theorem z385 {a:Nat}{c:Int}(d:a<=50)(e:b<=(((10^30)-2000)+(a:Int)))(f:c<b):c<=(10^30):=ai (aj f) (ai e (ai (b8 (br.mpr d) _) (by decide)))
theorem z399 {b:Nat}(c:a<=(((10^30)-2000)+(b:Int))):a+1<=(((10^30)-2000)+(((b+1):Nat):Int)):=by simpa +arith using c
theorem z400 {b:Nat}(c:a=((b:Int)-1)):(min (aG (a+1)) b)=b:=by rw[c,h_];exact Nat.min_self b
theorem z401 {b:Nat}(c:0<=a)(d:a<(b:Int))(f:¬ (a=((b:Int)-1))):(aG (a+1))<b:=(eS (aj (nM c))).mpr (jt.mpr ⟨nO d,λe=>f (by rw[<-e,Int.add_sub_cancel])⟩)
theorem z406 {b:Nat}{c:Int}(d:(2<=a)/\((a<=(1000000+(10*(b:Int))))/\((1<=c)/\(c<=100)))):1<a:=by omega
theorem z407 {a:Nat}(c:a<=50)(d:b<=(1000000+(10*(a:Int)))):b<=1000000000000000000000000000000:=by lia
theorem z408 {a:Nat}(c:a<=50)(d:b<=((10^16)+(a:Int))):b<=1000000000000000000000000000000:=by lia
theorem z409 {b:Nat}(c:a<=(((10^30)-2000)+(b:Int)))(d:b<=50):a<=1000000000000000000000000000000:=by lia
theorem z436 (a:(0:Nat)=(1:Nat)):False:=by grind
theorem z445 {b:Nat}{c:Int}(d:(2<=a)/\((a<=(1000000+(10*(b:Int))))/\((1<=c)/\(c<=100)))):0<=a:=ai (by decide) d.1
theorem z447 {a:Nat}(c:a=1)(d:1<a):a=(aG b):=by lia
theorem z466 {c:Nat}(d:a-1=b)(e:(c:Int)=b):((aG a)-1)=c:=by rw[show a=((c+1:Nat):Int) by rw[fX,e,<-d];exact(h_ a 1).symm];rfl
theorem z503 {a b c e:Nat}{d:Int}(f:a<b)(g:b<c)(h:(d%2)=(e:Int)):c≠e:=λz=>zmod h 0 (aa (cL (cU f)) g) (z.trans (mx _).symm)
theorem z504 {a b c e:Nat}{d:Int}(f:6<=a)(g:a<b)(h:b<c)(i:(d%2)=(e:Int)):c≠(3+e):=λz=>zmod i 3 (aa (by decide) (aa f (aX (eP g h)))) z
theorem z505 {a c:Nat}(d:6<=a)(e:(b%2)=(c:Int)):a≠c:=by grind
theorem z506 {a c:Nat}(d:6<=a)(e:(b%2)=(c:Int)):a≠(3+c):=zmod e 3 (aa (by decide) d)
section
variable {a b c d e f g k z:Nat}
theorem z0 (c:a<b):a+0<b:=by omega
theorem z1 (d:((max 0 a)+1)<=b):a-c<=b:=aa (dg ..) (aa (e9 0 a) (bw d))
theorem z2 (d:¬ (a ≥ (b-c))):c+a<b:=fA (gJ d)
theorem z3:(a<((2*a)+1)):=by simpa +arith using h0
theorem z4 (c:a+1<=b):a+1+1<=2*b+1:=by lia
theorem z5:(0<=a):=cX a
theorem z6 (d:a<b)(e:((max 0 b)+1)<=c):a+1<=c:=aa (aa d (e9 0 b)) (bw e)
theorem z7 (d:a<(min b c)):a<b:=ah d (d4 ..)
theorem z8 (d:a<(min b c)):a<c:=ah d (eA ..)
theorem z9:(a<=(a+b)):=aY a b
theorem z10:(((a+b)-a)=b):=Nat.add_sub_self_left a b
theorem z12 (e:a+1+b<=c+d):a+2<=(c+(d+1)):=cL (aa (aY ..) e)
theorem z14 (e:a+1+b<=c+d):a+2<=c+1+d:=by rw[dK];exact cL (aa (aY ..) e)
theorem z15 (e:a+1+b<=c+d):(a+1+(b+1))<=c+1+d:=by simpa +arith using e
theorem z16 (c:a+1<b):0<b-a:=dX (fC c)
theorem z17 (d:a+2<=b+c):a+2<=b+1+c:=by lia
theorem z18 (e:a+2<=b+c):a+2<=(b+(c+d)):=aa e (aI (aY ..) _)
theorem z19 (e:a+2<=b+c):a+2<=b+d+c:=aa e (bz (aY ..) _)
theorem z20 (d:a+2<=b+c):a+2<=b+c:=by omega
theorem z21 (c:a=b):(min (b-1) a)=b-1:=c▸bF (dg ..)
theorem z23 (c:a<=b):a-1<=b:=aa (dg a 1) c
theorem z24 (g:(a+b+(c+1+d))<=e+f)(h:¬ ((a-1)=0)):(a-1+b+(c+2))<=e+f:=aa (bf (zsub h)) (aa (aI (aY ..) _) g)
theorem z25 (g:(a+b+(c+1+d))<=e+f)(h:¬ ((a-1)=0)):(a-1+b+(c+1+(d+1)))<=e+f:=aa (bf (zsub h)) g
theorem z27 (b:2<=a)(c:¬ ((a-1)=1)):2<=a-1:=bv (fJ b) (Ne.symm c)
theorem z28 (g:2<=a)(h:(b+a+(c+1+d))<=e+f):((b+(a-1))+(c+2))<=e+f:=aa (bf (zmov g)) (aa (aI (aY ..) _) h)
theorem z29 (g:2<=a)(h:(b+a+(c+1+d))<=e+f):((b+(a-1))+(c+1+(d+1)))<=e+f:=aa (bf (zmov g)) h
theorem z30 (d:a=b)(e:c<=b):(min c a)=c:=by lia
theorem z31 (f:(a+b+(c+2))<=d+e)(g:2<=b-1):(((a+(b-1))+c)+3)<=d+e:=by rw[bQ,zmov (c:=c+2) (aa g (dg ..))];exact f
theorem z32 (f:(a+b+(c+3))<=d+e):(a-1+b+(c+2))<=d+e:=aa (cZ (bz (dg ..) _) (jm _)) f
theorem z33 (b:¬ (a=1))(c:¬ (a=0)):2<=a:=by lia
theorem z34 (g:a+b+c+3<=d+e)(h:f<=b):(a+f+(c+3))<=d+e:=aa (bz (aI h _) _) g
theorem z35 (d:a<=b)(e:b-a=c)(f:¬ (c>0)):a=b:=cI d (iO.mp (e.trans (iR f)))
theorem z36 (e:a<=b)(f:a-c=d)(g:d>0):c<=b:=aa (aX (ke (f▸g))) e
theorem z37 (h:(a+b+(c+2))<=d+e)(i:a-f=g)(j:g>0):(f+b+(c+2))<=d+e:=aa (bz (bz (aX (ke (i▸j))) _) _) h
theorem z38 (f:(a+b+(c+2))<=d+e):(a+b+(c+2))<=d+e:=by omega
theorem z39 (e:a<=b)(f:c<a):¬ ((b<=c)/\(c<d)):=by lia
theorem z40 (e:a+b<=c)(f:d<a):¬ (d=c-b):=λz=>c9 _ (ah f (z▸fJ e))
theorem z41 (e:a+b<=c)(f:d<a):¬ (((c-b)<d)/\(d<=c)):=λz=>c9 _ (eP (aw (fJ e) z.1) f)
theorem z42 (c:a<=b)(d:b<1):a=b:=by lia
theorem z43:((0+1)<=(a+1)):=aE (0+1) a
theorem z44 (f:a+b<=c)(g:d<b)(h:e=c):a+d<e:=h▸ah (bZ g _) f
theorem z45 (f:a+b<=c)(g:d<b)(h:e=c):a+d-1<e:=h▸aw (dg ..) (ah (bZ g _) f)
theorem z46 (f:a+b<=c)(g:d<b)(h:e=c):a+d<=e:=h▸aa (aI (aX g) _) f
theorem z47 (d:a+1<=b):c<=(c+b-(a+1)):=by rw[fD d];exact aY ..
theorem z48:(((a+1)-1)=a):=by simp
theorem z49 (d:(a+1-(b+1+1))<=c):(a-(b+1))<=c:=by simpa +arith using d
theorem z51 (f:a+b<=c)(g:d<=b)(h:e=c):a+d<=e:=by lia
theorem z52 (e:a<=b)(f:b<c):(d<=d+a)/\((d+a)<d+c):=by simp;lia
theorem z53 (d:a<b):(c<=c+a)/\((c+a)<c+b):=by simpa +arith using d
theorem z54 (d:a<=b):c-1-b<=c-1-a:=Nat.sub_le_sub_left d (c-1)
theorem z55 (d:a<b):b-1-c<b:=aw (dg ..) (lF (cU d) (by decide))
theorem z56 (d:a+1<=b)(e:b<=c):1<=c:=by lia
theorem z57 (d:a+b<=c)(e:1<=b):a<c:=by lia
theorem z58 (e:a+b<=c)(f:1<=d)(g:d<=b):a+d-1<c:=ah (lF (ah f (aE ..)) (by decide)) (aa (aI g _) e)
theorem z60 (e:a+b<=c)(f:d<=b):a+d<=c:=by lia
theorem z61 (b:1<=a)(c:¬ (a>1)):a=1:=by lia
theorem z62 (c:a<1+1)(d:b<a):b=0:=by lia
theorem z63 (c:a<1+1)(d:b<a):a=1:=by lia
theorem z64 (c:a<b):(a<=((a+b)/2))/\(((a+b)/2)<b):=⟨(i8 (by decide)).mpr (by rw[nz];exact aI (aX c) _),(mV (by decide)).mpr (by rw[nz];exact Nat.add_lt_add_right c _)⟩
theorem z65 (e:a<=b)(f:b<(min (max c 1) d))(g:c=0):a=b:=by rw[g] at f;have:=Nat.lt_one_iff.mp (ah f (d4 ..));rw[this] at e ⊢;exact Nat.le_zero.mp e
theorem z66 (d:a<(min (max b 1) c))(e:b>0):a<b:=ah d (aa (d4 ..) (Nat.max_le.mpr ⟨az _,e⟩))
theorem z67 (i:a+b<=c)(j:d<b)(k:e=c)(l:f<=g)(h:g<=d):(a+((f+g)/2))<e:=k▸ah (bZ (aw (Nat.div_le_of_le_mul (by rw[nj];exact cZ (aa l h) h)) j) _) i
theorem z68:((a+((a+b)-(a+c)))<=(a+b)):=by simpa +arith using h0
theorem z69 (e:(a+b+(c+1))<=d):((a+(b+1))+c)<=d:=by simpa +arith using e
theorem z70:((a+b)<(((a+b)+1)+c)):=ah (az (a+b).succ) (aY (a+b).succ c)
theorem z71 (d:a=(b+(c+1+1))):(b<a)/\((b+1)<a):=d▸⟨eY (my _),bZ (Nat.succ_lt_succ (my _)) _⟩
theorem z72 (c:0<a)(d:0=b+a):False:=by lia
theorem z73 (b:0<a):0<a:=by omega
theorem z74 (c:a<=b)(d:b-a=0):a=b:=cI c (iO.mp d)
theorem z75 (c:¬ ((a-b)=0)):b<=a:=aX (mT c)
theorem z76:((a+(b+1))<=(((b+1)-c)+(a+c))):=aa (aI (nB (az _)) a) (bf (iC ..))
theorem z77:((a+1)<=(((b+(a+1))-(b+c))+c)):=by rw[jo];exact nB (az _)
theorem z78 (h:a=b+1)(i:c<=b)(j:d<=e):(f+c+0+(a-c+d))<=(f+(a+(e+g))):=by rw[hA,bQ,<-bQ c,Nat.add_sub_of_le (h▸dY i)];exact aI (aI (c6 j) _) _
theorem z79 (d:a+b<=c):(min b (c-a))=b:=bF (mU d)
theorem z80 (e:a<(min b (c-d))):a<b:=ah e (d4 ..)
theorem z81 (e:a<(min b (c-d))):d+a<c:=fA (ah e (eA ..))
theorem z82 (e:a=b)(f:((max 0 c)<=a)\/(c<=a))(g:b+d=c):d=0:=by lia
theorem z83 (e:a=b)(f:b+c=d)(g:a ≥ d):c=0:=by lia
theorem z84 (b:1<=a)(c:0=a):False:=by lia
theorem z85 (b:a>1):a-2<a:=lF (cU b) (by decide)
theorem z86 (c:a=b)(d:a>1):a-2+1<b:=c▸jp d (az _)
theorem z87 (f:a=b)(g:c+d=e)(h:b+d=e):c=a:=by lia
theorem z88 (c:a<=b):a+0<=b:=by omega
theorem z89 (c:((a+(max 0 b))<=b)\/(a<=1)):a<=1:=by lia
theorem z90 (d:a=b)(e:¬ (a<=1))(f:c<=a-2):c+1<b:=d▸jp (gJ e) f
theorem z91 (e:(((a+(b+1+1))+c)<=d)\/((a+(b+1+1))<=1)):((a+(b+1))+(c+1))<=d:=by simpa +arith using e
theorem z92 (c:a<=100000)(d:b=16777216):a<=b:=by lia
theorem z93 (c:a<=100000)(d:b=16777216):a<=b+1:=by lia
theorem z94 (c:¬ (a<b))(d:a-b=0):a=b:=cI (iO.mp d) (eZ c)
theorem z95 (d:((a+(8*(b+1)))+200)<c):a+3+8*b+200<c:=aw (bz (by rw[bQ,dD 3];exact aI (aI (by decide) _) _) _) d
theorem z96 (f:a<=100)(g:b+8*c+200<d):(b+(min a e))<d:=aw (cZ (aY ..) (aa (d4 ..) (aa f (by decide)))) g
theorem z98 (f:a<=100)(g:b+8*c+200<d):(b+1+(min e a))<d:=aw (aa (aI (aa (eA ..) f) _) (show b+101<=_ from cZ (aY ..) (by decide))) g
theorem z99 (c:a<(2^62))(d:(b:Int)=(a:Int)):(b:Int)<(2^63):=d▸cH (bW.mpr c) (by decide)
theorem z101 (e:a+b<=1000000)(f:1000000<=c)(g:d=a):d<=c:=by lia
theorem z102 (f:a+b<=1000000)(g:1000000<=c)(h:d=a)(i:e=b):d+e<=c+1:=by rw[h,i];exact dY (aa f g)
theorem z103 (d:a+b<=1000000)(e:1000000<=c):¬ ((a+b)>c):=by lia
theorem z104 (c:a<b):0<((b:Int)-(a:Int)):=by simpa +arith using c
theorem z106 (c:a<b):((((b:Int)-1)-(a:Int))=(((b-1-a):Nat):Int))/\((((b:Int)-1)-(((a+1):Nat):Int))=((((b-1-a):Nat):Int)-1)):=by have e:((b:Int)-1)-(a:Int)=(((b-1)-a:Nat):Int):=by{ rw[jK (dl c),jK (aw (cX _) c)];rfl };exact⟨e,by rw[<-e];exact(nI ((b:Int)-1) a 1).symm⟩
theorem z109 (d:a=b)(e:(c:Int)<(b:Int)):c<a:=by lia
theorem z110 (c:a<(2^62))(d:b=a):(b:Int)<(2^63):=d▸cH (bW.mpr c) (by decide)
theorem z111 (d:a<=b)(e:c<a)(f:c=b):False:=by lia
theorem z112:((aG ((a:Int)+((b:Int)*1)))=(a+b)):=by rw[jq];rfl
theorem z113 (e:a<=b):(min (c-d) (a-d))<=b:=aa (eA ..) (aa (dg ..) e)
theorem z114 (b:a<5000):a<=100000:=by lia
theorem z115 (c:a<5000)(d:b=a):b<=(2^24):=by simp;lia
theorem z116 (b:a<5000):a<=(2^24):=by simp;lia
theorem z117:((a+(gQ b))=((a+(0+1))+b)):=Eq.symm (Nat.succ_add_eq_add_succ a b)
theorem z118 (b:a<200):1+300+a<1000:=by simp;lia
theorem z119 (b:a<200):4+8*a+200<9900:=by lia
theorem z120 (b:300<((a/30)+1))(c:a<9000):False:=by lia
theorem z121 (d:(a+(b+1))<c):a+1+b<c:=by simpa +arith using d
theorem z122 (d:2<=a)(e:b+a<c):b+2<c:=aw (aI d _) e
theorem z123 (b:a<=1000):a<(2^62):=aw b (aE (gQ 1000) 4611686018427386903)
theorem z124 (b:a<=63):a<=1000:=aa b (aE 63 937)
theorem z125 (b:a<=63):a<4611686018427387904:=aw b (aE (gQ 63) 4611686018427387840)
theorem z128:(a=((2*(a/2))+(a%2))):=Eq.symm (k9 a 2)
theorem z129:(((a:Int)/2)=(((a/2):Nat):Int)):=by simp
theorem z130 (b:0<(a:Int)):(a/2)<a:=iW (bW.mp b) (by decide)
theorem z133 (b:¬ (0<(a:Int))):a=0:=by simpa +arith using b
theorem z135:((-(2^62))<=(a:Int)):=Int.neg_ofNat_le_natCast (2^62) a
theorem z136 (b:a<=1000):(a:Int)<(2^62):=by simp;lia
theorem z139 (c:a<=1000)(d:b<a):b<=(2^24):=by simp;lia
theorem z140 (b:a<=1000):a<=(2^24):=aa b (aE 1000 16776216)
theorem z141 (b:a<=100000):a<=(2^24):=aa b (aE 100000 16677216)
theorem z144 (b:a<=200):a<=1000:=aa b (aE 200 800)
theorem z145:((((a:Int)%2)=0)\/(((a:Int)%2)=1)):=Int.emod_two_eq ↑a
theorem z146:(((2*(a/2))+(aG ((a:Int)%2)))=a):=k9 a 2
theorem z147:(((a/2)*2)<=a):=Nat.div_mul_le_self a 2
theorem z148:((a+a)=(2*a)):=Eq.symm (nj a)
theorem z154 (c:2<=a)(d:a<2):b≠0:=by lia
theorem z155 (c:a<=1000000)(d:b<=a):(c5 (b:Int))<(2^64):=by simp;lia
theorem z156 (d:2<=a)(e:b<=c)(f:2*a<=b):a<c:=by lia
theorem z157 (b:2<=a):(a:Int)≠0:=by lia
theorem z158:(0<=(a:Int)):=ig a
theorem z159 (c:a<b):(b-(a+1))<b-a:=Nat.sub_succ_lt_self b a c
theorem z160 (c:¬ ((a:Int)<=(b:Int))):b<a:=by simpa +arith using c
theorem z161 (c:2<=a)(d:a<=b):1<(b:Int):=by lia
theorem z162 (e:a<b)(f:b=c)(g:c<=a*1):2<=d:=by grind
theorem z163 (f:a<b)(g:a=c)(h:b<=c):d<e:=by grind
theorem z164 (c:a<=b):1*a<=b:=by simpa +arith using c
theorem z165 (d:a<=b+1)(e:c<a):c<=b:=by lia
theorem z166 (f:a<=b)(e:b+2=c+d)(g:d<=a):c=c-1+1:=(cY (eD λz=>by rw[z,mx] at e;exact absurd (aa g f) (di (e▸eY (by decide))))).symm
theorem z167 (b:1<(a:Int)):¬ (a<=1):=by lia
theorem z168:((0+a)<=a):=by simp
theorem z169:((a+0)=a):=by simp
theorem z170 (c:a+2<=b):(b:Int)≠0:=by lia
theorem z171 (c:1<=a)(d:a<=b):b=b-1+1:=(cY (aa c d)).symm
theorem z172 (d:a<=20000)(e:a+2=b+1+c):(c5 (c:Int))<(2^64):=show c<2^64 from aw (aa (aE c (b+1)) (e▸bz d 2)) (by decide)
theorem z173:(a<(a+1)):=Nat.lt_add_one a
theorem z174 (d:(a+(b+1))<=c):b<=c:=by lia
theorem z175 (d:(a+(b+1))<=c):a+1+b<=c:=by simpa +arith using d
theorem z176 (d:a+1+b=c):(a+(b+1))=c:=by subst d;simp +arith
theorem z177 (c:0+a=b):b=a:=by subst c;simp +arith
theorem z178 (e:a<=20000)(f:b+2<=c)(g:a+2=d+1+c):b<=100000:=aa (dC (k:=2) f) (aa (aE c (d+1)) (g▸aa (bz e 2) (by decide)))
theorem z179 (c:a+2<=b):2<=b+1:=by lia
theorem z180 (d:a+2=b+1+c):a+2=(b+(c+1)):=by rw[d];simp +arith
theorem z181 (c:a+2<=b):a+2<=b:=by omega
theorem z182 (b:¬ (0<(a:Int))):¬ (0<a):=by simpa +arith using b
theorem z183 (b:1<=a)(c:¬ (1<(a:Int))):a=1:=by lia
theorem z184 (e:a<=20000)(f:a+2=b+c)(g:d+2<=c):d<=100000:=aa (dC (k:=2) g) (aa (aE c b) (f▸aa (bz e 2) (by decide)))
theorem z185 (c:a<=1000)(d:b=a):b<=1000:=by lia
theorem z187 (b:1<=a):((a:Int)-1)=(((a-1):Nat):Int):=(jK b).symm
theorem z189 (b:2<=a)(c:¬ ((a:Int)=2)):3<=a:=by lia
theorem z190 (b:3<=a):((a:Int)-1)=(((a-1):Nat):Int):=(k_ (aa (by decide) b)).symm
theorem z191 (c:1<=a)(d:a<b):1<=b-1:=dl (aw c d)
theorem z192 (b:a<=401):a-1<=20000:=by simp;lia
theorem z193 (c:1<=a)(d:a<b):(((b-1):Nat):Int)≠0:=λz=>iP (dX (aw c d)) (gO z)
theorem z194:(0<=(((a-1):Nat):Int)):=ig (a-1)
theorem z195 (c:1<=a)(d:a<b):0<(((b-1):Nat):Int):=bW.mpr (dX (aw c d))
theorem z200 (b:a<=401):(a:Int)<=(10^32):=by simp;lia
theorem z201 (c:a<=401)(d:b<a):(c5 (b:Int))<(2^200):=by simp;lia
theorem z204 (b:a<=401):(a:Int)<((10^30)-2000):=by simp;lia
theorem z205 (c:a<b):(a:Int)<=(b:Int):=by simp;lia
theorem z207:(2<=(2+(a:Int))):=Int.le.intro a rfl
theorem z208 (c:a<b):(2+(a:Int))<(2+(b:Int)):=by simpa +arith using c
theorem z211 (b:2<=a):(aG ((a:Int)-1))=a-2+1:=(Int.toNat_sub a 1).trans (cY (dl b)).symm
theorem z213 (b:a<=100000):a<(2^62):=aw b (aE (gQ 100000) 4611686018427287903)
theorem z214 (b:a<=20000):(a:Int)<(2^62):=by simp;lia
theorem z215 (b:a<=20000):(aG ((a:Int)-2))<=100000:=by simp;lia
theorem z216:((2+(a:Int))≠0):=by simpa +arith using h0
theorem z217:(0<=(2+(a:Int))):=Int.zero_le_ofNat (2+a)
theorem z219 (c:a<b):(a:Int)<(2+(((aG ((b:Int)-2)):Nat):Int)):=by rw[show((b:Int)-2).toNat=b-2 from Int.toNat_sub b 2];exact bW.mpr (ah c (Nat.sub_le_iff_le_add'.mp (az _)))
theorem z220 (b:a<=20000):((a:Int)-2)<=20000:=by lia
theorem z221:((-(2^62))<=((a:Int)-1)):=by lia
theorem z222 (b:a<=20000):((a:Int)-1)<(2^62):=by lia
theorem z223 (b:a<=20000):(aG (((a:Int)-1)-2))<=100000:=by simp;lia
theorem z224 (c:a<=20000)(d:b<(aG (((a:Int)-1)-2))):(c5 (2+(b:Int)))<(2^64):=show 2+b<2^64 from eP (bZ (ah d (aa (eh.mpr (ai (iZ _ (by decide)) (iZ _ (by decide)))) c)) 2) (by decide)
theorem z225 (c:a<(aG (((b:Int)-1)-2))):(b:Int)≠0:=λe=>by rw[e] at c;exact k8 a c
theorem z227 (b:a<=20000):(((a:Int)-1)-2)<=20000:=by lia
theorem z228 (b:a<=20000):a<=100000:=aa b (aE 20000 80000)
theorem z235 (b:a<=20000):(a:Int)<((10^30)-2000):=by simp;lia
theorem z239 (c:a<=20000)(d:b<a):(c5 (b:Int))<(2^200):=by simp;lia
theorem z240 (c:a<b):0<=((b:Int)-1):=by lia
theorem z241 (b:a<=20000):((a:Int)-1)<(10^32):=by lia
theorem z242 (c:a<b):1<=(b:Int):=by lia
theorem z243 (b:a<=20000):(a:Int)<=(10^32):=by simp;lia
theorem z247 (c:1<=a)(d:a<b):2<=(b:Int):=by lia
theorem z250 (c:a<b*2):(a/2)<b:=(mV (by decide)).mpr c
theorem z251 (c:a<(2^70))(d:b<=a-1):b<(2^70):=aw d (aw (dg ..) c)
theorem z252 (b:(a=1)\/((a=11)\/((a=13)\/((a=19)\/(a=23))))):a<(2^70):=by rcases b with rfl|rfl|rfl|rfl|rfl<;>decide
theorem z261 (b:a=4):a<=1000:=by subst b;simp +arith
theorem z263 (b:a<100):(a:Int)<(10^32):=by simp;lia
theorem z267 (c:2<=(a:Int))(d:a*2<=b):a<b:=ah (by rw[nz];exact eY (ah (by decide) (br.mp c))) d
theorem z295 (b:a<=10):a<=1000:=aa b (aE 10 990)
theorem z296 (e:a=1+b)(f:c<=d):c+1<=a+d:=by rw[e,dD c];exact cZ (aY ..) f
theorem z297 (b:a<=900):a<=999:=aa b (aE 900 99)
theorem z298 (c:a+b<=1000):a+b<=1000000:=aa c (aE 1000 999000)
theorem z299 (d:a=b)(e:b<=500)(f:c<=a):c<=1000:=by lia
theorem z300 (e:a<=500)(f:(b+(c+0))=a)(g:d<=b):d<=900:=aa g (aa (aY ..) (f▸aa e (by decide)))
theorem z301 (e:a=1+b)(f:(c+(a+0))=d):c<d:=by rw[<-f,e];exact eY (by rw[hA,dD];exact my _)
theorem z302 (e:(a+(b+(c+0)))<=d):a+b<=d:=by lia
theorem z303 (d:a<=500)(e:(b+(c+0))=a):b<=500:=by lia
theorem z304 (c:1<=a)(d:b=a):(b:Int)≠0:=by simp;lia
theorem z305 (d:a=1+b)(e:a<=20)(f:c<=b):c<=20:=by lia
theorem z306 (f:a<=500)(g:(b+(c+0))=a)(h:d<=b)(i:e<=20):d+e<=1000:=aa (cZ (aa h (aa (aY ..) (g▸f))) i) (by decide)
theorem z307 (e:a=1+b)(f:(c+(a+0))=d):c+b<d:=by rw[<-f,e,hA,dD 1];exact bZ (fO _) _
theorem z309 (b:a<=1):a<=1:=by omega
theorem z310 (g:a=0+b)(f:(c+(d+(a+0)))<=e):(c+(d+b))<=e:=by rw[g,mx] at f;exact f
theorem z311 (f:a=1+b)(g:(c+(d+(a+0)))<=e):(c+1+(d+b))<=e:=by rw[bQ,iC 1,<-f];exact g
theorem z312 (e:a<=500)(f:b=1+c)(g:(d+(b+0))=a):d+c<=500:=aa (by rw[<-g,f];exact aI (aE ..) _) e
theorem z313 (b:a<=63):a<5000:=aw b (aE (gQ 63) 4936)
theorem z314 (c:a<=63)(d:b=a):b<=1000:=by lia
theorem z315 (d:a=b)(e:c=a):c=b:=by lia
theorem z316 (e:a<=b)(f:c<=d):a+c<=d+b:=by lia
theorem z317 (d:a<b)(e:b<c):c≠a:=by lia
theorem z318 (b:8<=a):5<(a:Int):=by omega
theorem z319 (e:a+b<=39)(f:c=a+d)(g:d<=1):c<=1000:=by lia
theorem z320 (d:a+b<=39)(e:c<=a+1):c+b<=40:=by lia
theorem z321 (b:a<=5):a*20<=100:=nA 20 a 100 b
theorem z322 (b:a<=5):a*7<=35:=nA 7 a 35 b
theorem z323 (b:8<=a):6<(a:Int):=by omega
theorem z328 (d:a<=5)(e:b<=100)(f:c<=b):a+c<=1000:=by lia
theorem z330 (c:a<=100)(d:b<=100):a+b<=500:=by lia
theorem z331 (b:a<=35):a<=40:=aa b (aE 35 5)
theorem z332 (b:a<=35):a<=39:=aa b (aE 35 4)
theorem z333 (b:a<=100):a<=500:=aa b (aE 100 400)
theorem z334 (b:8<=a):0<(a:Int):=by simp;lia
theorem z346 (c:a<=10+b)(d:b<=50):a<=1000:=by lia
theorem z353 (c:a<=50)(d:b<=10+a):b<=1000:=by lia
theorem z362 (b:1<=a):(0<=(-1+(a:Int)))/\((aG (-1+(a:Int)))=a-1):=by obtain⟨k,rfl⟩:=f_ b;rw[show(-1+((1+k:Nat):Int))=(k:Int) by rw[fX];exact Int.neg_add_cancel_left 1 k];exact⟨ig _,(dm ..).symm⟩
theorem z363 (c:a+1<=b):((a+(b-(a+1)))+1)=b:=by rw[dK,bY c]
theorem z373 (c:a<=50)(d:b<=(10+(a+1))):b<=1000:=by lia
theorem z379 (c:a<=50)(d:b<=10+a):b<=999:=by lia
theorem z386 (e:a<=1000)(f:(a:Int)=(b:Int))(g:c+d+1=b):c+d<=1000:=bw (aa (bf (g.trans (gO f).symm)) e)
theorem z387 (e:a<=10+b)(f:c+d+1=a):c+d<=(10+(b+1)):=bw (aa (bf f) (dY e))
theorem z388 (d:1<(a:Int))(e:b+c+1=a)(f:b+c=0):False:=by lia
theorem z389 (c:1<=a)(d:(b:Int)=(a:Int)):(b:Int)≠0:=by lia
theorem z392 (d:1<=a+b+c)(e:a+b+c=0):False:=by lia
theorem z393 (e:a<=63)(f:b+c+1=a)(g:d<=1):b+d+c<=63:=aa (by rw[dK];exact aI g _) (f▸e)
theorem z396 (d:a<=63)(e:b+c+1=a):b<=999:=by lia
theorem z397 (d:a<=63)(e:b+c+1=a):b+1+c<=1000:=by lia
theorem z398:(1<=((a+1)+b)):=by simpa +arith using h0
theorem z402 (d:a<=63)(e:b+c+1=a):b+c<=1000:=by lia
theorem z403 (e:a+b+1=c)(d:1<(c:Int)):1<=a+b:=mB (by rw[<-e] at d;exact bW.mp d)
theorem z404 (c:a<=50)(d:b<=10+a):b<(2^62):=by simp;lia
theorem z405 (b:a≠0)(c:(a:Int)=0):False:=by lia
theorem z410 (b:a<=63):a<(2^62):=aw b (aE (gQ 63) 4611686018427387840)
theorem z411 (b:a<=63):(a:Int)<=200:=by lia
theorem z412 (c:a<=b):a<=b:=by omega
theorem z413 (b:a<=63):a<=200:=aa b (aE 63 137)
theorem z415 (b:a<=10):a<=10+0:=by omega
theorem z418 (c:a<=62)(d:b<=a+1):b<=63:=by lia
theorem z423 (b:0<a)(c:a=0):False:=by lia
theorem z424 (b:a<2)(c:a≠0):a=1:=by lia
theorem z425 (c:a<b-1):(1<=a+1)/\((a+1)<b):=⟨aE ..,Nat.add_lt_of_lt_sub c⟩
theorem z426 (c:a<b)(d:b<=a):False:=by lia
theorem z427 (c:¬ (a<b))(d:¬ (b<a)):b=a:=by lia
theorem z428 (b:1<a):a=a-1+1:=(cY (aX b)).symm
theorem z429:(((a+(b*1))+(1*(b+1)))=((a+(b*2))+1)):=by simpa +arith using h0
theorem z430 (c:a+1<b-1):a<b:=ah (eP (fO _) c) (dg ..)
theorem z431:(1<=(a+2)):=aE 1 (a+1)
theorem z432 (e:a<b-1)(f:c<=a)(g:b-1=d)(h:d<=c*1):False:=by lia
theorem z433 (d:a<b)(e:b<c-1):a<=c-1:=by lia
theorem z434 (d:a<b)(e:b<c-1):c-1-a+b=(c-1+(b-a)):=by rw[<-Nat.sub_add_comm (aX (eP d e)),fD (aX d)]
theorem z435 (c:a<b-1):0<b:=ah (cU c) (dg ..)
theorem z437 (c:a<b)(d:b=0):False:=by lia
theorem z438 (c:a=0)(d:b<a):False:=by lia
theorem z439 (b:0<a)(c:0=a):False:=by lia
theorem z440 (f:a<b)(g:b=c)(e:d ≥ b)(h:2*d<=c):False:=absurd (aa (cZ e e) (by rw[<-nj,g];exact h)) (di (eY (cU f)))
theorem z441 (b:2<=(a:Int)):((a:Int)-1)=(((a-1):Nat):Int):=(k_ (br.mp (ai (by decide) b))).symm
theorem z442 (d:((a:Int)<(b:Int))/\(¬ ((c:Int)=1))):a<b:=by lia
theorem z443 (d:((a:Int)<(b:Int))/\(¬ ((c:Int)=1))):c≠1:=by lia
theorem z444 (c:(a:Int)<((b:Int)-1)):a<b-1:=Nat.lt_sub_of_add_lt (bW.mp (Int.add_lt_of_lt_sub_right c))
theorem z446 (c:1<=(a:Int))(d:(a:Int)<(b:Int)):1<b:=by lia
theorem z448:(a<=(a+1)):=aY a 1
theorem z449 (e:a<=b+c)(f:b<=d+1):a<=(d+(c+1)):=aa e (by rw[dD c,<-bQ];exact bz f _)
theorem z450 (b:a<=1000):a<=1000:=by omega
theorem z451 (b:a<=1):a+1<=100:=aw b (aE (gQ 1) 98)
theorem z452 (b:a+1<=460):a<=900:=by lia
theorem z453 (c:a<=450)(d:b<=a):b<=1000:=by lia
theorem z454 (f:a+1<=460)(g:b<=450)(h:c+a=d+e)(i:c<=b):e<=1000:=aa (aE e d) (h▸aa (cZ (aa i g) (bw f)) (by decide))
theorem z455 (e:a+b=c+d):a+1+b=(c+(d+1)):=by simpa +arith using e
theorem z456 (f:a+b=c+d)(g:a<=e):e-a+d<(e-c+(b+1)):=by obtain⟨k,rfl⟩:=f_ g;rw[dm];refine eR (hY (b:=c) (?_:k+d+c<=a+k-c+b+c));rw[bQ k,dD d c,<-f,iC,<-bQ,dK _ b c];exact bz (Nat.sub_le_iff_le_add.mp (az _)) b
theorem z457 (b:a<=450):a<=1000:=aa b (aE 450 550)
theorem z458 (d:a=b+1)(e:c=a+1):b<=c:=by lia
theorem z459 (c:a=b+1):b≠a:=by subst c;simp +arith
theorem z460 (d:a=b+1)(e:c=a+1):b≠c:=by lia
theorem z461 (e:a<=450)(f:a-b+c=d)(g:d<=a+1):c<=460:=aa (aa (f▸aE ..) (aa g (cL e))) (by decide)
theorem z462 (g:a-b+c=d)(h:d<=a+1)(i:a-e+f<a-b+c):a-e+f<=a+1:=aa (aX i) (aa (bf g) h)
theorem z463 (c:a<=450)(d:b<=a):b<5000:=by lia
theorem z464 (d:a<=450)(e:b<=a)(f:c=b):c<=999:=by lia
theorem z470 (b:a<=450):a<5000:=aw b (aE (gQ 450) 4549)
theorem z471 (d:a<b)(e:b<=c):c≠a:=by lia
theorem z472 (e:a<=450)(f:b<=63)(g:c<=b)(h:d<=a+c):d<=1000:=by lia
theorem z473 (d:a<=63)(e:b<=a)(f:c<=b):c<=1000:=by lia
theorem z474 (d:a<b)(e:b<=c):a≠c:=by lia
theorem z476 (c:a<=450)(d:b<=a):b<=999:=by lia
theorem z477 (e:a<=450)(f:a-b+c=d)(g:d<=a+1):c<(2^62):=aw (aa (f▸aE ..) (aa g (cL e))) (by decide)
theorem z478 (d:a<b)(e:c=b+1):a≠c:=by lia
theorem z479 (c:a<=450)(d:b<=a):b+1<5000:=by lia
theorem z480 (b:a<=3):(max ((max 0 (max 0 0))+1) a)<=3:=by simp;lia
theorem z481 (b:a<=3):((max 0 (max 0 (max ((max 0 (max (a+1) 0))+1) 0)))+1)<=8:=by simp;lia
theorem z482 (c:a<=9)(d:b<=8):(max b a)<=9:=by lia
theorem z483 (b:a<=1):((max (a+1) 0)+1)<=100:=by simp;lia
theorem z484 (b:a<=10):((max a 0)+1)<=100:=by simp;lia
theorem z485:(a<=(a+63)):=aY a 63
theorem z486 (b:¬ ((a:Int)=0)):0<(a:Int):=by simp;lia
theorem z490 (c:a+63<=450)(d:b<=a):b<=450:=by lia
theorem z491 (e:a<=b)(f:c<d)(g:d<=a):b≠c:=by lia
theorem z492 (f:a<b)(g:b<=c)(h:d<=e)(i:c<=d):e≠a:=by lia
theorem z493:(2≠(3+a)):=by simpa +arith using h0
theorem z494 (b:a<2):5≠a:=by lia
theorem z495 (b:a<2):5≠(3+a):=by lia
theorem z496 (c:a<2):a≠(3+b):=by lia
theorem z497 (c:a<2):(3+b)≠a:=by lia
theorem z498 (c:¬ (a=b)):(3+a)≠(3+b):=by simpa +arith using c
theorem z499:((min ((min (aG 17) a)-(min (aG 12) a)) (a-(min (aG 12) a)))<=5):=aa (d4 ..) (nr (show min 17 a<=5+min 12 a by rw[<-Nat.add_min_add_left];exact jQ.mpr ⟨d4 ..,aa (eA ..) (aE ..)⟩))
theorem z502:(a≠(3+a)):=by simp
theorem z507:((1+(a:Int))≠0):=by simpa +arith using h0
theorem z508 (b:a<2):(c5 (1+(a:Int)))<=3:=show 1+a<=3 from aI (aX b) 1
theorem z509:(0<=(1+(a:Int))):=Int.zero_le_ofNat (1+a)
theorem z510 (b:6<a):a≠3:=by lia
theorem z511 (d:6<a)(e:b<=c)(f:a<b):6<=c:=by lia
theorem z512 (b:a<5):((63*(a+1))+63)<=450:=by lia
theorem z513 (b:a<=5):(63*(a+1))<=450:=by lia
theorem z514 (b:¬ (((63:Nat):Int)<(a:Int))):a<=63:=by omega
end
section
variable {a b c d:Int}
theorem z11 (d:a<b)(e:b<=c):a<=c:=by lia
theorem z13 (d:¬ (a<b))(e:a<=c):b<=c:=ai (gK d) e
theorem z22 (d:a<b)(e:c<=a):c<=b:=ai e (aj d)
theorem z26 (d:¬ (a<b))(e:c<=b):c<=a:=ai e (gK d)
theorem z50 (c:¬ (a<b))(d:¬ (b<a)):b=a:=Int.le_antisymm (gK c) (gK d)
theorem z59 (d:¬ (a<b))(e:a<=c)(f:c<=b):c=b:=Int.le_antisymm f (ai (gK d) e)
theorem z127 (c:0<=a)(d:a<b)(e:b<=(10^32)):(c5 a)<(10^32):=og c (bL d (ai e (by decide)))
theorem z131 (c:0<=a)(d:a<b):b≠0:=by lia
theorem z132 (c:0<=a)(d:a<b):0<=b:=by lia
theorem z134 (b:(0<=a)/\(a<2147483647)):(0<=a)/\(a<4294967296):=⟨b.1,cH b.2 (by decide)⟩
theorem z137 (b:0<=a)(c:a<2147483647):(c5 a)<=2147483647:=aX (og b c)
theorem z142 (b:a<(10^32)):(aG a)<(10^32):=by simp;lia
theorem z149 (b:2<=a):0<=a-1:=by lia
theorem z150 (b:(1<=a)/\((c5 a)<(2^200))):a≠0:=by omega
theorem z151 (b:(1<=a)/\((c5 a)<(2^200))):0<=a:=ai (by decide) b.1
theorem z152 (c:a<=(10^32))(d:b<=a-1):b<(10^32):=bL (jr d) c
theorem z153 (c:0<=a)(d:a<=b-1):1<=b:=by lia
theorem z186 (c:a<=b)(d:1<=a):0<=b:=by lia
theorem z188 (c:(2<=a)/\((a<402)/\((1<=b)/\(b<=100)))):0<=a:=ai (by decide) c.1
theorem z196 (b:0<=a):1<=(aG (1+a)):=z1t b
theorem z198 (b:0<=a):0<=1+a:=by lia
theorem z202 (c:(2<=a)/\((a<402)/\((1<=b)/\(b<=100)))):(1<=a)/\((c5 a)<(2^200)):=⟨ai (by decide) c.1,og (ai (by decide) c.1) (cH c.2.1 (by decide))⟩
theorem z206 (c:(2<=a)/\((a<402)/\((1<=b)/\(b<=100)))):(2<=a)/\((a<=20000)/\((1<=b)/\(b<=100))):=⟨c.1,aj (bL c.2.1 (by decide)),c.2.2⟩
theorem z210 (b:2<=a):(2+(((aG (a-2)):Nat):Int))=a:=by rw[bb (fK b),Int.add_comm,h_]
theorem z229 (b:2<=a):a≠0:=by lia
theorem z231 (b:2<=a):0<=a:=aj (aj b)
theorem z245 (b:2<=a):1<=(aG a):=by lia
theorem z253 (b:402<a):0<=a:=ai (by decide) b
theorem z254 (b:402<a):1<=(aG a):=(fk (aj (cH (by decide) b))).mpr (aj (cH (by decide) b))
theorem z255 (b:a<(2^70)):(aG a)<(2^70):=by simp;lia
theorem z256 (b:402<a):0<a:=bL (by decide) b
theorem z257 (b:402<a):¬ (a<=401):=by lia
theorem z258 (b:402<a):a≠0:=by lia
theorem z259 (b:402<a):(aG (a-1))=((aG (a-2))+1):=gO (by show((a-1).toNat:Int)=((a-2).toNat:Int)+1;rw[bb (fK (aj (cH (by decide) b))),bb (fK (aj (cH (by decide) b))),show a-2=a-1-1 from(nI a 1 1).symm,h_])
theorem z264 (b:3<=a):1<=a:=aj (aj b)
theorem z265 (b:a<(10^30)):a<=(10^32):=by simp;lia
theorem z266 (b:3<=a):0<a:=aj (aj b)
theorem z268:((((a+b)+(b+1))-1)=(a+(b*2))):=by simpa +arith using h0
theorem z270 (b:0<=a)(c:a<4294967296):(c5 a)<(2^64):=og b (cH c (by decide))
theorem z271 (b:a<1000000000000000):2+a<=1000000000000001:=by simpa +arith using b
theorem z272 (b:a<1000000000000000-9):2+a<=999999999999992:=by simpa +arith using b
theorem z273 (b:0<=a):0<=2+a:=by lia
theorem z274 (b:a<1000000000000000-9):2+a+1<=999999999999993:=by simpa +arith using b
theorem z275 (b:0<=a):0<=2+a+1:=by lia
theorem z276 (b:0<=a):3<=2+a+1:=by lia
theorem z277 (b:0<=a)(c:a<1000000000000000):(c5 (2+a))<(2^64):=og (gz (by decide) b) (cH (jE c 2) (by decide))
theorem z278 (b:a<1000000000000000):2+a<(10^16):=by simp;lia
theorem z279 (b:a<1000000000000000-9):2+a<(10^16):=cH (jE b 2) (by decide)
theorem z280 (c:0<=a)(d:((2+a)*2)<=b):3<=b:=by lia
theorem z281 (c:0<=a)(d:((2+a)*2)<=b):2<=b:=by lia
theorem z282 (b:0<=a):1<=2+a:=by lia
theorem z283 (c:0<=a)(d:((2+a)*2)<=b):2+a<=b:=ai (by rw[mH,Int.two_mul];exact aZ (gz (by decide) c)) d
theorem z284 (c:0<=a)(d:((2+a)*2)<=b):2+a<b:=bL (by rw[mH,Int.two_mul];exact Int.lt_add_of_pos_right _ (Int.add_pos_of_pos_of_nonneg (by decide) c)) d
theorem z285 (b:0<=a)(c:a<1000000000000000-9):(c5 (2+a+1))<(2^64):=og (gz (gz (by decide) b) (by decide)) (cH (nP (jE c 2) 1) (by decide))
theorem z286 (c:0<=a)(d:((2+a+1)*3)<=b):1<b-1:=by lia
theorem z287 (c:0<=a)(d:((2+a+1)*3)<=b):2<=b-1:=by lia
theorem z288 (b:a<((10^30)-2000)):a-1<((10^30)-2000):=aU (iZ _ (by decide)) b
theorem z289 (b:0<=a):1<=2+a+1:=by lia
theorem z290 (c:0<=a)(d:((2+a+1)*3)<=b):2+a+1<=b-1:=by lia
theorem z291 (b:0<=a):1<2+a+1:=by lia
theorem z292 (c:0<=a)(d:((2+a+1)*3)<=b):2+a+1<b-1-1:=by lia
theorem z293 (c:0<=a)(d:((2+a+1)*3)<=b):3<=b-1:=by lia
theorem z294 (b:0<=a):2<=2+a+2:=by lia
theorem z324 (b:0<=a):0<=(a/4):=i3 b (by decide)
theorem z325 (b:(2<=a)/\(a<=401)):a=(((aG a):Nat):Int):=by simp;lia
theorem z326 (b:(2<=a)/\(a<=401)):2<=(aG a):=(fk (ai (by decide) b.1)).mpr b.1
theorem z327 (b:(2<=a)/\(a<=401)):(aG a)<=401:=by simp;lia
theorem z329 (b:(2<=a)/\(a<=401)):0<=a:=ai (by decide) b.1
theorem z335:((-(2^62))<=(1+(a%5))):=by lia
theorem z336:((1+(a%5))<(2^62)):=by lia
theorem z337:((aG (1+(a%5)))<=1000):=by simp;lia
theorem z339 (b:0<=a):2<=(aG (2+a)):=(fk (gz (by decide) b)).mpr (aZ b)
theorem z340 (c:a<=398)(d:b<a):(aG (2+b))<=401:=eh.mpr (ai (b8 (ai (aj d) c) 2) (by decide))
theorem z343 (b:1<=a)(c:a<=(10^30)):(c5 a)<(10^32):=og (ai (by decide) b) (aU c (by decide))
theorem z347 (b:1<=a):1<=a:=by omega
theorem z348 (b:1<=a):(-(2^62))<=a:=ai (by decide) b
theorem z349 (b:a<=100):a<(2^62):=aU b (Int.NonNeg.mk (2^62-gQ 100))
theorem z351 (d:a<b)(e:b<=c):¬ (c=a):=by lia
theorem z354 (b:a<=(10^32)):a-1<=(10^32):=by simp;lia
theorem z355 (c:1<=a)(d:¬ (b<=a)):0<=b-1:=by simp;lia
theorem z356 (c:1<=a)(d:¬ (b<=a)):1<=b:=by lia
theorem z357 (c:1<a)(d:a<b-1):b≠0:=by lia
theorem z358 (c:1<a)(d:a<b-1):0<=b:=by lia
theorem z364 (c:2<=a):2<=(a+1-(b%2)):=by lia
theorem z366 (c:2<=a):2<=(a+(b%2)):=by lia
theorem z368:(1<=(1+(a%3))):=by lia
theorem z369:((1+(a%3))<=(10^30)):=by lia
theorem z376:(1<=((a%100)+1)):=by lia
theorem z377:(((a%100)+1)<=100):=yk _ (by decide)
theorem z380 (c:2<=a):2<=(a+1+(b%9)):=by lia
theorem z382 (d:a<=b):a<(b+1+(c%9)):=bL (nM d) (aZ (aT c (by decide)))
theorem z384 (b:2<=a):0<a:=aj b
theorem z390:(0<=((a/64)%10)):=by lia
theorem z391:(((a/64)%10)<10):=yk _ (by decide)
theorem z394:(0<=(a%8)):=by lia
theorem z395:((a%8)<8):=yk _ (by decide)
theorem z414 (c:a<((10^30)-2000))(d:b<=a):b<=(10^30):=ai d (aj (cH c (by decide)))
theorem z416 (c:(2<=a)/\((a<=20000)/\((1<=b)/\(b<=100)))):(2<=a)/\((a<=(1000000+(10*((0:Nat):Int))))/\((1<=b)/\(b<=100))):=⟨c.1,ai c.2.1 (by decide),c.2.2⟩
theorem z417 (c:a=b)(d:2*2<=b):2<=a:=by lia
theorem z419 (c:(2<=a)/\((a<=20000)/\((1<=b)/\(b<=100)))):1<=a:=ai (by decide) c.1
theorem z420 (c:(2<=a)/\((a<=20000)/\((1<=b)/\(b<=100)))):1<=(aG b):=(fk (ai (by decide) c.2.2.1)).mpr c.2.2.1
theorem z421 (e:a=b-1)(f:c<=a)(g:d<=c):d<b:=jr (e▸ai g f)
theorem z422 (c:(2<=a)/\((a<=20000)/\((1<=b)/\(b<=100)))):0<=a:=ai (by decide) c.1
theorem z465 (b:1<=a):(aG a)=(((aG a)-1)+1):=(cY (fk (ai (by decide) b) |>.mpr b)).symm
theorem z467 (b:2<=a):a-1=((((aG a)-1):Nat):Int):=by rw[k_ (fk (ai (by decide) b) |>.mpr (ai (by decide) b)),bb (ai (by decide) b)];rfl
theorem z468 (b:a<a):False:=by simpa +arith using b
theorem z469 (c:a<b)(d:b<a):False:=by lia
theorem z475:((a<=b)\/(b<=a)):=Int.le_total a b
theorem z487 (b:2<=a):a=(((aG a):Nat):Int):=by simp;lia
theorem z488 (b:2<=a):2<=(aG a):=fk (ai (by decide) b) |>.mpr b
theorem z489 (b:a<1000):(aG a)<=1000000:=by simp;lia
theorem z500:((aG (a%2))<2):=by simp;lia
theorem z501:((a%2)=(((aG (a%2)):Nat):Int)):=by simp;lia
end
end Mine
namespace Mine
open PySem PySem.W PyProof.Rows
set_option Elab.async false
set_option genSizeOf false
set_option bootstrap.genMatcherCode false
noncomputable def topRunT (tb:String->Option Builtin) (p:Program) (w:World) (n₀:Nat) (ann:Option Value):Nat->SharedT->Thread->Option SharedT
 | 0,_,_=>none
 | n+1,s,t=>match through t with
  | true=>some s
  | false=>match stepOk n₀ ann t with
   | false=>none
   | true=>match stepT (denote tb) p w s t with
    | some (s',t')=>topRunT tb p w n₀ ann n s' t'
    | none=>none
theorem topRunT_spec {d:String->Option Builtin}{p:Program}{w:World}{c:Nat}{a:Option Value} :
  ∀{n:Nat}{s s':SharedT}{t:Thread},topRunT d p w c a n s t=some s'->topRun d p w c a n s.abs t=some s'.abs
 | 0,_,_,_,h=>by cases h
 | n+1,s,s',t,h=>by
  unfold topRunT at h;unfold topRun;cases e:through t with
  | true=>rw[e] at h;cases h;rfl
  | false =>
   rw[e] at h;cases f:stepOk c a t with
   | false=>rw[f] at h;cases h
   | true =>
    rw[f] at h;cases b:stepT (denote d) p w s t with
    | none=>rw[b] at h;cases h
    | some r=>obtain⟨g,i⟩:=r;rw[b] at h;rw[stepT_spec b];exact topRunT_spec h
noncomputable def putAll:List Obj->Nat->BT->BT
 | [],_,t=>t
 | o::l,n,t=>putAll l (n+1) (t.ins n o)
noncomputable def bootTree (P:Params):BT:=putAll (boot_heap P).objs.toList 0 .nil
noncomputable def bootLife (P:Params):Life:=(boot_heap P).life
noncomputable def bootT (P:Params) (n:Nat) (os:OsState):SharedT:=⟨bootTree P,n,bootLife P,lf [],boot_drawn,boot_toks,os⟩
theorem boot_abs (P:Params):absHeap (bootTree P) (boot_heap P).objs.size (bootLife P)=boot_heap P:=by kernel_rfl
theorem boot_seen (P:Params):(boot_heap P).isNs dA=true:=by kernel_rfl
noncomputable def headOf (p q:Program) (loose:List Str) (Xt:Shared->Bool) (M:Nat) (w:World) (os:OsState) :=
 (topRunT treeTable p w (boot_heap w.params).objs.size ((boot_heap w.params).nsMap dA "__annotations__") M (bootT w.params (boot_heap w.params).objs.size os) (topStub p)).map λsT =>
  (staticsOk (importedModules p.main.body) (boot_heap w.params) sT.abs.heap&&namesBound p sT.abs.heap&&gensDone sT.abs&&laidKept (boot_heap w.params) sT.abs.heap,
   openSeen q loose (importedModules p.main.body) Xt true sT.abs)
set_option maxHeartbeats 4000000 in
theorem lay1:Function.const _ true (@headOf)=true:=by k_qdec
theorem left_of_head {p q:Program}{loose:List Str}{Xt:Shared->Bool}{M:Nat}(e:opening p=plainProg p.main.scope.names) (m:fU 600 N=true)
  (f:∀s,fenceModules? p s=some s) (le:fU M N=true) (h:∀w os,headOf p q loose Xt M w os=some (true,openGood q loose)) :
  LeftO p q loose Xt (Hook.obs Hook.none) (Hook.val Hook.none) N:=λw=>by
 obtain⟨⟨n,gs,d,k,os⟩,g,i⟩:=yf (boot_open e m f w);obtain⟨rfl,rfl,rfl,rfl⟩:n=boot_heap w.params/\gs=lf []/\d=boot_drawn/\k=boot_toks:=by simpa using i
 obtain⟨a,r,l⟩:=yf (h w os);have b:=congrArg al l;have c:=congrArg ln l;dsimp only at b c;have r:=topRunT_spec r;have j:(bootT w.params (boot_heap w.params).objs.size os).abs=⟨boot_heap w.params,lf [],boot_drawn,boot_toks,os⟩:=by unfold bootT SharedT.abs;dsimp only;rw[boot_abs]
 rw[j] at r;have r:=topRun_mono (N-M) _ _ _ _ r;rw[show M+(N-M)=N by have:=ye le;lia] at r;have z1:=boot_seen w.params;unfold openEnds;rw[g];show Option.map _ (topFrom treeTable p w N ⟨boot_heap w.params,lf [],boot_drawn,boot_toks,os⟩)=_;have t:topFrom treeTable p w N ⟨boot_heap w.params,lf [],boot_drawn,boot_toks,os⟩=some a.abs:=by unfold topFrom;rw[z1,r];show(match staticsOk (importedModules p.main.body) (boot_heap w.params) a.abs.heap&&namesBound p a.abs.heap&&gensDone a.abs&&laidKept (boot_heap w.params) a.abs.heap with|true=>_|false=>_)=_;rw[b]
 rw[t];exact congrArg some (mR c rfl)
end Mine
namespace Mine
theorem c7 {p0 p1:Prop}{G:Prop}(h:p0/\p1) (g:p0->p1->G):G:=by obtain⟨a,b⟩:=h;exact g a b
theorem fT {p0 p1 p2:Prop}{G:Prop}(h:p0/\p1/\p2) (g:p0->p1->p2->G):G:=by obtain⟨a,b,c⟩:=h;exact g a b c
theorem jA {p0 p1 p2 p3:Prop}{G:Prop}(h:p0/\p1/\p2/\p3) (g:p0->p1->p2->p3->G):G:=by obtain⟨a,b,c,d⟩:=h;exact g a b c d
theorem oh {p0 p1 p2 p3 p4:Prop}{G:Prop}(h:p0/\p1/\p2/\p3/\p4) (g:p0->p1->p2->p3->p4->G):G:=by obtain⟨a,b,c,d,e⟩:=h;exact g a b c d e
theorem m7 {p0 p1 p2 p3 p4 a:Prop}{G:Prop}(h:p0/\p1/\p2/\p3/\p4/\a) (g:p0->p1->p2->p3->p4->a->G):G:=by obtain⟨b,c,d,e,f,i⟩:=h;exact g b c d e f i
theorem cG {b:Sort _}{p0:b->Prop}{G:Prop}(h:∃a,p0 a) (g:∀a,p0 a->G):G:=by obtain⟨a,c⟩:=h;exact g a c
theorem aK {b:Sort _}{p0 p1:b->Prop}{G:Prop}(h:∃a,p0 a/\p1 a) (g:∀a,p0 a->p1 a->G):G:=by obtain⟨a,c,d⟩:=h;exact g a c d
theorem eT {b:Sort _}{p0 p1 p2:b->Prop}{G:Prop}(h:∃a,p0 a/\p1 a/\p2 a) (g:∀a,p0 a->p1 a->p2 a->G):G:=by obtain⟨a,c,d,e⟩:=h;exact g a c d e
theorem lB {b:Sort _}{p0 p1 p2 p3:b->Prop}{G:Prop}(h:∃a,p0 a/\p1 a/\p2 a/\p3 a) (g:∀a,p0 a->p1 a->p2 a->p3 a->G):G:=by obtain⟨a,c,d,e,f⟩:=h;exact g a c d e f
theorem pT {b:Sort _}{p0 p1 p2 p3 p4:b->Prop}{G:Prop}(h:∃a,p0 a/\p1 a/\p2 a/\p3 a/\p4 a) (g:∀a,p0 a->p1 a->p2 a->p3 a->p4 a->G):G:=by obtain⟨a,c,d,e,f,i⟩:=h;exact g a c d e f i
theorem oJ {b:Sort _}{p0 p1 p2 p3 p4 c:b->Prop}{G:Prop}(h:∃a,p0 a/\p1 a/\p2 a/\p3 a/\p4 a/\c a) (g:∀a,p0 a->p1 a->p2 a->p3 a->p4 a->c a->G):G:=by obtain⟨a,d,e,f,i,j,k⟩:=h;exact g a d e f i j k
theorem kA {c:Sort _}{d:Sort _}{p0:c->d->Prop}{G:Prop}(h:∃a b,p0 a b) (g:∀a b,p0 a b->G):G:=by obtain⟨a,b,e⟩:=h;exact g a b e
theorem kB {c:Sort _}{d:Sort _}{p0 p1:c->d->Prop}{G:Prop}(h:∃a b,p0 a b/\p1 a b) (g:∀a b,p0 a b->p1 a b->G):G:=by obtain⟨a,b,e,f⟩:=h;exact g a b e f
theorem eX {c:Sort _}{d:Sort _}{p0 p1 p2:c->d->Prop}{G:Prop}(h:∃a b,p0 a b/\p1 a b/\p2 a b) (g:∀a b,p0 a b->p1 a b->p2 a b->G):G:=by obtain⟨a,b,e,f,i⟩:=h;exact g a b e f i
theorem m9 {c:Sort _}{d:Sort _}{p0 p1 p2 p3:c->d->Prop}{G:Prop}(h:∃a b,p0 a b/\p1 a b/\p2 a b/\p3 a b) (g:∀a b,p0 a b->p1 a b->p2 a b->p3 a b->G):G:=by obtain⟨a,b,e,f,i,j⟩:=h;exact g a b e f i j
theorem mI {c:Sort _}{d:Sort _}{p0 p1 p2 p3 p4:c->d->Prop}{G:Prop}(h:∃a b,p0 a b/\p1 a b/\p2 a b/\p3 a b/\p4 a b) (g:∀a b,p0 a b->p1 a b->p2 a b->p3 a b->p4 a b->G):G:=by obtain⟨a,b,e,f,i,j,k⟩:=h;exact g a b e f i j k
theorem pE {c:Sort _}{d:Sort _}{p0 p1 p2 p3 p4 e:c->d->Prop}{G:Prop}(h:∃a b,p0 a b/\p1 a b/\p2 a b/\p3 a b/\p4 a b/\e a b) (g:∀a b,p0 a b->p1 a b->p2 a b->p3 a b->p4 a b->e a b->G):G:=by obtain⟨a,b,f,i,j,k,l,m⟩:=h;exact g a b f i j k l m
theorem mJ {d:Sort _}{e:Sort _}{f:Sort _}{p0:d->e->f->Prop}{G:Prop}(h:∃a b c,p0 a b c) (g:∀a b c,p0 a b c->G):G:=by obtain⟨a,b,c,i⟩:=h;exact g a b c i
theorem nS {d:Sort _}{e:Sort _}{f:Sort _}{p0 p1:d->e->f->Prop}{G:Prop}(h:∃a b c,p0 a b c/\p1 a b c) (g:∀a b c,p0 a b c->p1 a b c->G):G:=by obtain⟨a,b,c,i,j⟩:=h;exact g a b c i j
theorem kM {d:Sort _}{e:Sort _}{f:Sort _}{p0 p1 p2:d->e->f->Prop}{G:Prop}(h:∃a b c,p0 a b c/\p1 a b c/\p2 a b c) (g:∀a b c,p0 a b c->p1 a b c->p2 a b c->G):G:=by obtain⟨a,b,c,i,j,k⟩:=h;exact g a b c i j k
theorem oX {d:Sort _}{e:Sort _}{f:Sort _}{p0 p1 p2 p3:d->e->f->Prop}{G:Prop}(h:∃a b c,p0 a b c/\p1 a b c/\p2 a b c/\p3 a b c) (g:∀a b c,p0 a b c->p1 a b c->p2 a b c->p3 a b c->G):G:=by obtain⟨a,b,c,i,j,k,l⟩:=h;exact g a b c i j k l
theorem lG {d:Sort _}{e:Sort _}{f:Sort _}{p0 p1 p2 p3 p4:d->e->f->Prop}{G:Prop}(h:∃a b c,p0 a b c/\p1 a b c/\p2 a b c/\p3 a b c/\p4 a b c) (g:∀a b c,p0 a b c->p1 a b c->p2 a b c->p3 a b c->p4 a b c->G):G:=by obtain⟨a,b,c,i,j,k,l,m⟩:=h;exact g a b c i j k l m
theorem pF {e:Sort _}{f:Sort _}{i:Sort _}{j:Sort _}{p0:e->f->i->j->Prop}{G:Prop}(h:∃a b c d,p0 a b c d) (g:∀a b c d,p0 a b c d->G):G:=by obtain⟨a,b,c,d,k⟩:=h;exact g a b c d k
theorem rD {e:Sort _}{f:Sort _}{i:Sort _}{j:Sort _}{p0 p1:e->f->i->j->Prop}{G:Prop}(h:∃a b c d,p0 a b c d/\p1 a b c d) (g:∀a b c d,p0 a b c d->p1 a b c d->G):G:=by obtain⟨a,b,c,d,k,l⟩:=h;exact g a b c d k l
theorem vN {e:Sort _}{f:Sort _}{i:Sort _}{j:Sort _}{p0 p1 p2:e->f->i->j->Prop}{G:Prop}(h:∃a b c d,p0 a b c d/\p1 a b c d/\p2 a b c d) (g:∀a b c d,p0 a b c d->p1 a b c d->p2 a b c d->G):G:=by obtain⟨a,b,c,d,k,l,m⟩:=h;exact g a b c d k l m
theorem te {e:Sort _}{f:Sort _}{i:Sort _}{j:Sort _}{p0 p1 p2 p3:e->f->i->j->Prop}{G:Prop}(h:∃a b c d,p0 a b c d/\p1 a b c d/\p2 a b c d/\p3 a b c d) (g:∀a b c d,p0 a b c d->p1 a b c d->p2 a b c d->p3 a b c d->G):G:=by obtain⟨a,b,c,d,k,l,m,n⟩:=h;exact g a b c d k l m n
theorem pU {f:Sort _}{i:Sort _}{j:Sort _}{k:Sort _}{l:Sort _}{p0:f->i->j->k->l->Prop}{G:Prop}(h:∃a b c d e,p0 a b c d e) (g:∀a b c d e,p0 a b c d e->G):G:=by obtain⟨a,b,c,d,e,m⟩:=h;exact g a b c d e m
theorem zI {f:Sort _}{i:Sort _}{j:Sort _}{k:Sort _}{l:Sort _}{p0 p1:f->i->j->k->l->Prop}{G:Prop}(h:∃a b c d e,p0 a b c d e/\p1 a b c d e) (g:∀a b c d e,p0 a b c d e->p1 a b c d e->G):G:=by obtain⟨a,b,c,d,e,m,n⟩:=h;exact g a b c d e m n
theorem nY {f:Sort _}{i:Sort _}{j:Sort _}{k:Sort _}{l:Sort _}{p0 p1 p2:f->i->j->k->l->Prop}{G:Prop}(h:∃a b c d e,p0 a b c d e/\p1 a b c d e/\p2 a b c d e) (g:∀a b c d e,p0 a b c d e->p1 a b c d e->p2 a b c d e->G):G:=by obtain⟨a,b,c,d,e,m,n,o⟩:=h;exact g a b c d e m n o
end Mine
namespace Mine
section
variable {α:Type}(k:α->Int)
def Asc (l:List α):Prop:=l.Pairwise λx y=>k x<=k y
structure MI (t out A B:List α):Prop where
 perm:(out++(A++B)).Perm t
 so:Asc k out
 sa:Asc k A
 sb:Asc k B
 le:∀x∈out,∀y∈A++B,k x<=k y
variable {k}
theorem Asc.app {l m:List α}(h:Asc k (l++m)):Asc k l/\Asc k m/\∀x∈l,∀y∈m,k x<=k y:=cV.mp h
theorem Asc.mk {l m:List α}(a:Asc k l) (b:Asc k m) (c:∀x∈l,∀y∈m,k x<=k y):Asc k (l++m):=cV.mpr ⟨a,b,c⟩
theorem MI.left {t out P A B:List α}(h:MI k t out (P++A) B) (c:∀p∈P,∀y∈B,k p<=k y):MI k t (out++P) A B:=by
 refine fT (h.sa.app) λs1 d e=>?_;refine⟨?_,Asc.mk h.so s1 λx a y b=>h.le x a y (by simp[b]),d,h.sb,λx a y b=>?_⟩
 ·rw[bg,<-bg P];exact h.perm
 ·rcases yd a with a|a
  ·exact h.le x a y (by rcases yd b with z|z<;>simp[z])
  ·rcases yd b with z|z
   ·exact e x a y z
   ·exact c x a y z
theorem MI.right {t out P A B:List α}(h:MI k t out A (P++B)) (c:∀p∈P,∀y∈A,k p<=k y):MI k t (out++P) A B:=by
 refine fT (h.sb.app) λs1 d e=>?_;refine⟨?_,Asc.mk h.so s1 λx a y b=>h.le x a y (by simp[b]),h.sa,d,λx a y b=>?_⟩
 ·refine lX.trans ?_ h.perm;rw[bg];refine fw out ?_;rw[<-bg,<-bg];exact d9 B gB
 ·rcases yd a with a|a
  ·exact h.le x a y (by rcases yd b with z|z<;>simp[z])
  ·rcases yd b with z|z
   ·exact c x a y z
   ·exact e x a y z
theorem MI.done {t out A B:List α}(h:MI k t out A B) (e:A=[]\/B=[]):Asc k (out++A++B)/\(out++A++B).Perm t:=by
 refine⟨?_,by rw[bg];exact h.perm⟩;rw[bg];refine Asc.mk h.so ?_ h.le;rcases e with rfl|rfl
 ·exact h.sb
 ·rw[gX];exact h.sa
theorem MI.last {t out A B:List α}(h:MI k t out A B) (a:∀x∈B,∀y∈A,k x<=k y):Asc k (out++B++A)/\(out++B++A).Perm t:=by rw[bg];refine⟨Asc.mk h.so (Asc.mk h.sb h.sa a) λx b y c=>h.le x b y (by rcases yd c with z|z<;>simp[z]),?_⟩;exact(fw out gB).trans h.perm
structure MJ (k:α->Int) (t A B R:List α):Prop where
 perm:((A++B)++R).Perm t
 sr:Asc k R
 sa:Asc k A
 sb:Asc k B
 le:∀x∈A++B,∀y∈R,k x<=k y
theorem MJ.left {t A P B R:List α}(h:MJ k t (A++P) B R) (c:∀p∈P,∀y∈B,k y<=k p):MJ k t A B (P++R):=by
 refine fT (h.sa.app) λs1 d e=>?_;refine⟨?_,Asc.mk d h.sr λx b y a=>h.le x (by simp[b]) y a,s1,h.sb,λx b y a=>?_⟩
 ·refine lX.trans ?_ h.perm;rw[<-bg];refine d9 R ?_;rw[bg,bg];exact fw A gB
 ·rcases yd a with a|a
  ·rcases yd b with z|z
   ·exact e x z y a
   ·exact c y a x z
  ·exact h.le x (by rcases yd b with z|z<;>simp[z]) y a
theorem MJ.right {t A P B R:List α}(h:MJ k t A (B++P) R) (c:∀p∈P,∀y∈A,k y<=k p):MJ k t A B (P++R):=by
 refine fT (h.sb.app) λs1 d e=>?_;refine⟨?_,Asc.mk d h.sr λx b y a=>h.le x (by simp[b]) y a,h.sa,s1,λx b y a=>?_⟩
 ·refine lX.trans ?_ h.perm;rw[<-bg];refine d9 R ?_;rw[bg]
 ·rcases yd a with a|a
  ·rcases yd b with z|z
   ·exact c y a x z
   ·exact e x z y a
  ·exact h.le x (by rcases yd b with z|z<;>simp[z]) y a
theorem MJ.done {t A B R:List α}(h:MJ k t A B R) (e:A=[]\/B=[]):Asc k (A++B++R)/\(A++B++R).Perm t:=by
 refine⟨Asc.mk ?_ h.sr h.le,h.perm⟩;rcases e with rfl|rfl
 ·exact h.sb
 ·rw[gX];exact h.sa
theorem MJ.first {t A B R:List α}(h:MJ k t A B R) (a:∀x∈B,∀y∈A,k x<=k y):Asc k (B++A++R)/\(B++A++R).Perm t :=
 ⟨Asc.mk (Asc.mk h.sb h.sa a) h.sr λx b y c=>h.le x (by rcases yd b with z|z<;>simp[z]) y c,(d9 R gB).trans h.perm⟩
end
end Mine
namespace Mine
open PySem PyProof.Rows
noncomputable def gallop':Bool->Keyed->Array Keyed->Nat->Nat->Nat->StateT SortSt Sem (Option Nat):=sortPriv% PySem.Builtin.gallop
abbrev kn (p:Keyed):Int:=numOf p.1
def IntP (p:Keyed):Prop:=∃n t,p.1=.int n t
section
variable {prog:Program}{w:World}{A:Around}{E:Value->Shared->Prop}{s:Shared}{st:SortSt}
theorem lm {arr:Array Keyed}{p:Keyed}{Q:Keyed->SortSt->Prop}(e:arr[i]?=some p) (h:Q p st):wpS (model prog w) A E s (elem' arr i) Q st:=by rw[elem'_eq,e];exact wpS_pure h
theorem r8 {p q:Keyed}{Q:Option Bool->SortSt->Prop}(j:kindOf st=oneType') (e:IntP p) (f:IntP q) (h:Q (some (decide (kn p<kn q))) st):wpS (model prog w) A E s (lt' p q) Q st:=by
 refine kA (e) λa t c=>?_;clear e;refine kA (f) λb u d=>?_;clear f;have g:kn p=a:=by unfold kn;rw[c];rfl
 have i:kn q=b:=by unfold kn;rw[d];rfl
 rw[g,i] at h;rw[lt'_eq];refine wpS_bind (wpS_get ?_);rw[j,keyLt'_oneType,c,d];refine wpS_bind (wpS_lift (nh (oneLt_int ⟨rfl,?_⟩)));exact wpS_pure h
theorem ua {a b:Nat}(h:a<b):a+(b-a)/2<b:=by
 have c:(b-a)/2<b-a:=iW (dX h) (by decide);have d:=bZ c a
 rwa [bY (aX h)] at d
theorem vX {hi x n lo:Nat}(h:hi+x<=n+lo) (a:lo<=m):hi+(x+1)<=n+(m+1):=cL (aa h (aI a n))
theorem vY {hi x n lo:Nat}(h:hi+x<=n+lo) (a:m<hi):m+(x+1)<=n+lo:=aa (bf (dK m x 1)) (aa (bz a x) h)
theorem v4 {hi n lo:Nat}(h:hi+max 0 n<=n+lo):hi<=lo:=by rw[Nat.max_eq_right (cX _),dD n lo] at h;exact hY h
theorem x8 {n lo hi:Nat}{B:Nat->Bool}{f:Nat->Option (Option Nat)×Nat×Nat->StateT SortSt Sem (ForInStep (Option (Option Nat)×Nat×Nat))}{Q:Option (Option Nat)×Nat×Nat->SortSt->Prop}
  (mono:∀i j,i<=j->j<n->B j=true->B i=true)
  (J:∀(x lo hi:Nat) (R:ForInStep (Option (Option Nat)×Nat×Nat)->SortSt->Prop),lo<hi->hi<=n->(B (lo+(hi-lo)/2)=true->R (.yield (none,lo+(hi-lo)/2+1,hi)) st)->(B (lo+(hi-lo)/2)=false->R (.yield (none,lo,lo+(hi-lo)/2)) st)->wpS (model prog w) A E s (f x (none,lo,hi)) R st)
  (H:∀(x lo hi:Nat) (R:ForInStep (Option (Option Nat)×Nat×Nat)->SortSt->Prop),¬ lo<hi->R (.done (none,lo,hi)) st->wpS (model prog w) A E s (f x (none,lo,hi)) R st)
  (K:lo<=hi) (C:hi<=n) (F:∀i,i<lo->B i=true) (G:∀i,hi<=i->i<n->B i=false)
  (h:∀lo m,m<=n->(∀i,i<m->B i=true)->(∀i,m<=i->i<n->B i=false)->Q (none,lo,m) st) :
  wpS (model prog w) A E s (forIn [0:n] (none,lo,hi) f) Q st:=by
 refine wpS_forRange (I:=λx c o=>o=st/\∃lo hi,c=(none,lo,hi)/\lo<=hi/\hi<=n/\hi+x<=n+lo/\(∀i,i<lo->B i=true)/\(∀i,hi<=i->i<n->B i=false)) ?step ?fin ⟨rfl,lo,hi,rfl,K,C,aa C (aY _ _),F,G⟩
 case fin =>
  intro c o a;refine c7 (a) λg b=>?_;clear a;subst g;refine pE (b) λlo hi k v e p q r=>?_;clear b;subst k;have:lo=hi:=cI v (v4 p);subst this;exact h _ _ e q r
 case step =>
  intro x c o _ L a;refine c7 (a) λg b=>?_;clear a;subst g;refine pE (b) λlo hi k v e p q r=>?_;clear b;subst k
  by_cases d:lo<hi
  ·have D:lo<=lo+(hi-lo)/2:=aY _ _;have u:lo+(hi-lo)/2<hi:=ua d;refine J x lo hi _ d e (λt=>?_) (λt=>?_)
   ·exact⟨rfl,_,_,rfl,u,e,vX p D,λi l=>mono i _ (cq l) (ah u e) t,r⟩
   ·refine⟨rfl,_,_,rfl,D,aa (aX u) e,vY p u,q,λi l z=>?_⟩;cases y:B i with
    | false=>rfl
    | true=>rw[mono _ i l z y] at t;cases t
  ·refine H x lo hi _ d ?_;have:lo=hi:=cI v (eZ d);subst this;exact h _ _ e q r
theorem tN {a n:Nat}(h:a<=n):a+(n-a)=n:=bY h
theorem gr1 {l o n:Nat}(a:l<o) (b:t+l<n):t+l+1<=t+min o (n-t):=aI (jQ.mpr ⟨a,fJ (by rw[dD];exact b)⟩) t
theorem gr2 {o n:Nat}(h:t<n):t+min o (n-t)<=n:=aa (aI (eA _ _) t) (bf (tN (aX h)))
theorem gr3 {o n:Nat}(h:t<n) (z:n-t<=o) (hi:t+min o (n-t)<=i):n<=i:=by rwa [iJ z,tN (aX h)] at hi
theorem gr4 {o n:Nat}(z:t+o<n) (hi:t+min o (n-t)<=i):t+o<=i:=by rwa [bF (fJ (by rw[dD];exact aX z))] at hi
theorem gl1 {l o:Nat}(a:l<o) (b:l<=t):t+1-min o (t+1)<=t-l:=by
 have:=Nat.sub_le_sub_left (jQ.mpr ⟨a,cL b⟩) (t+1)
 rwa [Nat.add_sub_add_right] at this
theorem gl3 {o:Nat}(z:t+1<=o) (hi:i<t+1-min o (t+1)):False:=by rw[iJ z,aO] at hi;exact k8 _ hi
theorem gl4 {o:Nat}(z:o<=t) (hi:i<t+1-min o (t+1)):i<=t-o:=by rw[bF (dY z),Nat.succ_sub z] at hi;exact cq hi
theorem zu {left:Bool}{t:Keyed}{arr:Array Keyed}{base n hint:Nat}{B:Nat->Bool}{Q:Option Nat->SortSt->Prop}(W:kindOf st=oneType') (J:IntP t)
  (hB:∀i,i<n->∃p,arr[base+i]?=some p/\IntP p/\B i=(if left then decide (kn p<kn t) else decide (kn p<=kn t)))
  (mono:∀i j,i<=j->j<n->B j=true->B i=true) (H:hint<n)
  (h:∀m,m<=n->(∀i,i<m->B i=true)->(∀i,m<=i->i<n->B i=false)->Q (some m) st) :
  wpS (model prog w) A E s (gallop' left t arr base n hint) Q st:=by
 have no:∀i j,i<=j->j<n->B i=false->B j=false:=λi j C L G=>by
  cases hj:B j with
  | false=>rfl
  | true=>rw[mono i j C L hj] at G;cases G
 have G:∀i,i<n->∀M:Option Bool->SortSt->Prop,M (some (B i)) st->wpS (model prog w) A E s (do
   let x <-elem' arr (base+i)
   if left=true then lt' x t else do
    let r <-lt' t x
    pure (Option.map (λx=>!x) r)) M st:=λi hi M q=>by
  refine eT (hB i hi) λp e Y N=>?_;refine wpS_bind (lm e ?_);cases left with
  | true =>
   rw[if_pos rfl];rw[if_pos rfl] at N;rw[N] at q;exact r8 W Y J q
  | false =>
   rw[if_neg (by decide)];rw[if_neg (by decide)] at N;rw[N] at q;refine wpS_bind (r8 W J Y (wpS_pure ?_));have Z:(!decide (kn t<kn p))=decide (kn p<=kn t):=by rw[gY];simp[ie]
   show M (some !decide (kn t<kn p)) st;rw[Z];exact q
 refine wpS_bind (G hint H _ ?_);cases X:B hint with
 | true =>
  dsimp only;rw[if_pos rfl];refine wpS_bind (wpS_mono (wpS_forRange (I:=λx c d=>d=st/\∃l o,c=(none,l,o)/\B (hint+l)=true/\l<o/\x+1<=o/\hint+l<n)
   (Q:=λc d=>d=st/\∃l o,c=(none,l,o)/\B (hint+l)=true/\l<o/\hint+l<n/\(n-hint<=o\/(hint+o<n/\B (hint+o)=false))) ?step ?fin ⟨rfl,0,1,rfl,X,by exact jh,by exact ye rfl,by exact z0 H⟩) ?post)
  case fin =>
   intro c d a;refine c7 (a) λg b=>?_;clear a;subst g;refine mI (b) λl o k v y K u=>?_;clear b;subst k;exact⟨rfl,l,o,rfl,v,y,u,.inl (by exact z1 K)⟩
  case step =>
   intro x c d _ hx a;refine c7 (a) λg b=>?_;clear a;subst g;refine mI (b) λl o k v y K u=>?_;clear b;subst k;dsimp only
   by_cases f:o ≥ n-hint
   ·rw[if_pos f];exact wpS_pure ⟨rfl,l,o,rfl,v,y,u,.inl f⟩
   ·rw[if_neg f];refine wpS_bind (G _ (by exact z2 f) _ ?_);cases D:B (hint+o) with
    | true=>exact wpS_pure ⟨rfl,_,_,rfl,D,by exact z3,by exact z4 K,by exact z2 f⟩
    | false=>exact wpS_pure ⟨rfl,l,o,rfl,v,y,u,.inr ⟨by exact z2 f,D⟩⟩
  case post =>
   intro c d a;refine c7 (a) λg b=>?_;clear a;subst g;refine mI (b) λl o k v y u O=>?_;clear b;subst k;refine wpS_bind (x8 (B:=B) mono (λx lo hi R C L U V=>?_) (λx lo hi R C r=>?_) (gr1 y u) (gr2 H) (λi hi=>mono i (hint+l) (cq hi) u v) (λi hi F=>?_) λlo m P S T=>?_)
   ·dsimp only;rw[if_neg (di C)];refine wpS_bind (G _ (ah (ua C) L) _ ?_);cases D:B (lo+(hi-lo)/2) with
    | true=>exact wpS_pure (U D)
    | false=>exact wpS_pure (V D)
   ·dsimp only;rw[if_pos (eZ C)];exact wpS_pure r
   ·rcases O with z|⟨z1,z2⟩
    ·exact absurd F (kJ (gr3 H z hi))
    ·exact no (hint+o) i (gr4 z1 hi) F z2
   ·exact wpS_pure (h m P S T)
 | false =>
  dsimp only;rw[if_neg (by decide)];refine wpS_bind (wpS_mono (wpS_forRange (I:=λx c d=>d=st/\∃l o,c=(none,l,o)/\B (hint-l)=false/\l<o/\x+1<=o/\l<=hint)
   (Q:=λc d=>d=st/\∃l o,c=(none,l,o)/\B (hint-l)=false/\l<o/\l<=hint/\(hint+1<=o\/(o<=hint/\B (hint-o)=true))) ?step ?fin ⟨rfl,0,1,rfl,X,by exact jh,by exact ye rfl,by exact z5⟩) ?post)
  case fin =>
   intro c d a;refine c7 (a) λg b=>?_;clear a;subst g;refine mI (b) λl o k v y K u=>?_;clear b;subst k;exact⟨rfl,l,o,rfl,v,y,u,.inl (by exact z6 H K)⟩
  case step =>
   intro x c d _ hx a;refine c7 (a) λg b=>?_;clear a;subst g;refine mI (b) λl o k v y K u=>?_;clear b;subst k;dsimp only
   by_cases f:o ≥ hint+1
   ·rw[if_pos f];exact wpS_pure ⟨rfl,l,o,rfl,v,y,u,.inl f⟩
   ·rw[if_neg f];refine wpS_bind (G _ (by exact iI H) _ ?_);cases D:B (hint-o) with
    | true=>exact wpS_pure ⟨rfl,l,o,rfl,v,y,u,.inr ⟨by exact eZ f,D⟩⟩
    | false=>exact wpS_pure ⟨rfl,_,_,rfl,D,by exact z3,by exact z4 K,by exact eZ f⟩
  case post =>
   intro c d a;refine c7 (a) λg b=>?_;clear a;subst g;refine mI (b) λl o k v y u O=>?_;clear b;subst k;refine wpS_bind (x8 (B:=B) mono (λx lo hi R C L U V=>?_) (λx lo hi R C r=>?_) (gl1 y u) (aa (dg _ _) (aX H)) (λi hi=>?_) (λi hi F=>no (hint-l) i hi F v) λlo m P S T=>?_)
   ·dsimp only;rw[if_neg (di C)];refine wpS_bind (G _ (ah (ua C) L) _ ?_);cases D:B (lo+(hi-lo)/2) with
    | true=>exact wpS_pure (U D)
    | false=>exact wpS_pure (V D)
   ·dsimp only;rw[if_pos (eZ C)];exact wpS_pure r
   ·rcases O with z|⟨z1,z2⟩
    ·exact(gl3 z hi).elim
    ·exact mono i (hint-o) (gl4 z1 hi) (aw (dg _ _) H) z2
   ·exact wpS_pure (h m P S T)
end
end Mine
namespace Mine
open PySem PyProof.Rows
noncomputable def mergeLo':Array Keyed->Array Keyed->StateT SortSt Sem (Array Keyed):=sortPriv% PySem.Builtin.mergeLo
noncomputable def setMinGallop':Nat->StateT SortSt Sem Unit:=sortPriv% PySem.Builtin.setMinGallop
abbrev setG (st:SortSt) (g:Nat):SortSt:=SortSt.mk' (kindOf st) (arrOf st) (pendingOf st) g (failedOf st)
section
variable {prog:Program}{w:World}{A:Around}{E:Value->Shared->Prop}{s:Shared}{st:SortSt}
theorem sQ {g:Nat}{Q:Unit->SortSt->Prop}(h:Q () (setG st g)):wpS (model prog w) A E s (setMinGallop' g) Q st:=by exact wpS_modify h
theorem ow {arr:Array Keyed}{p:Keyed}{r:List Keyed}(e:arr.toList.drop i=p::r):arr[i]?=some p:=by
 have h:(arr.toList.drop i)[0]?=some p:=by rw[e];rfl
 rw[hH] at h;rw[<-cD];exact h
theorem qW {arr:Array Keyed}(h:i<arr.size):∃p,arr.toList.drop i=p::arr.toList.drop (i+1) :=
 ⟨_,bp (by simpa using h)⟩
theorem pj {arr:Array Keyed}:(arr.extract i j).toList=(arr.toList.drop i).take (j-i):=by rw[Array.toList_extract,List.extract_eq_take_drop]
theorem sB {arr:Array Keyed}:(arr.extract i arr.size).toList=arr.toList.drop i:=by rw[pj,be];simp
theorem galR {a:Keyed}{arr:Array Keyed}{base n hint:Nat}{L:List Keyed}{Q:Option Nat->SortSt->Prop}(u:kindOf st=oneType') (d:IntP a) (o:(arr.toList.drop base).take n=L) (l:L.length=n) (y:Asc kn L) (x:∀p∈L,IntP p) (t:hint<n)
  (h:∀m,m<=n->(∀p∈L.take m,kn p<=kn a)->(∀p∈L.drop m,kn a<kn p)->Q (some m) st):wpS (model prog w) A E s (gallop' false a arr base n hint) Q st:=by
 have f:∀i,(hi:i<n)->arr[base+i]?=some (L[i]'(by exact eE hi (id (Eq.symm l)))):=λi hi=>by have:L[i]?=some (L[i]'(by exact eE hi (id (Eq.symm l)))):=ak _;rw[<-this,<-o,hG,if_pos hi,hH,cD]
 refine zu (B:=λi=>match L[i]? with|some p=>decide (kn p<=kn a)|none=>false) u d (λi hi=>⟨_,f i hi,x _ (eW _),?_⟩) (λi j g C e=>?_) t λm v q r=>h m v (λp k=>?_) (λp k=>?_)
 ·rw[ak (by lia)];rfl
 ·rw[ak (by lia)] at e ⊢;simp only[decide_eq_true_eq] at e ⊢;rcases cB g with z|z
  ·exact ai (eI.mp y i j (by lia) (by lia) z) e
  ·subst z;exact e
 ·refine cG (cQ k) λi b=>?_;refine cG (b) λhi c=>?_;clear b;subst c;rw[b9] at hi;have:=q i (by exact z7 hi);rw[ak (by exact z8 hi)] at this;rw[jZ];simpa using this
 ·refine cG (cQ k) λi b=>?_;refine cG (b) λhi c=>?_;clear b;subst c;rw[cK] at hi;have:=r (m+i) (by exact z9) (by lia);rw[ak (by exact fA hi)] at this;rw[j4];simp only[decide_eq_false_iff_not,Int.not_le] at this;exact this
theorem galL {a:Keyed}{arr:Array Keyed}{base n hint:Nat}{L:List Keyed}{Q:Option Nat->SortSt->Prop}(u:kindOf st=oneType') (d:IntP a) (o:(arr.toList.drop base).take n=L) (l:L.length=n) (y:Asc kn L) (x:∀p∈L,IntP p) (t:hint<n)
  (h:∀m,m<=n->(∀p∈L.take m,kn p<kn a)->(∀p∈L.drop m,kn a<=kn p)->Q (some m) st):wpS (model prog w) A E s (gallop' true a arr base n hint) Q st:=by
 have f:∀i,(hi:i<n)->arr[base+i]?=some (L[i]'(by exact eE hi (id (Eq.symm l)))):=λi hi=>by have:L[i]?=some (L[i]'(by exact eE hi (id (Eq.symm l)))):=ak _;rw[<-this,<-o,hG,if_pos hi,hH,cD]
 refine zu (B:=λi=>match L[i]? with|some p=>decide (kn p<kn a)|none=>false) u d (λi hi=>⟨_,f i hi,x _ (eW _),?_⟩) (λi j g C e=>?_) t λm v q r=>h m v (λp k=>?_) (λp k=>?_)
 ·rw[ak (by lia)];rfl
 ·rw[ak (by lia)] at e ⊢;simp only[decide_eq_true_eq] at e ⊢;rcases cB g with z|z
  ·exact aU (eI.mp y i j (by lia) (by lia) z) e
  ·subst z;exact e
 ·refine cG (cQ k) λi b=>?_;refine cG (b) λhi c=>?_;clear b;subst c;rw[b9] at hi;have:=q i (by exact z7 hi);rw[ak (by exact z8 hi)] at this;rw[jZ];simpa using this
 ·refine cG (cQ k) λi b=>?_;refine cG (b) λhi c=>?_;clear b;subst c;rw[cK] at hi;have:=r (m+i) (by exact z9) (by lia);rw[ak (by exact fA hi)] at this;rw[j4];simp only[decide_eq_false_iff_not,ie] at this;exact this
theorem uA {α:Type}{P:Prop}{b:Decidable P}{a d:StateT SortSt Sem α}{Q:α->SortSt->Prop}(c:P) (h:wpS (model prog w) A E s a Q st):wpS (model prog w) A E s (@ite _ P b a d) Q st:=by rw[if_pos c];exact h
theorem uz {α:Type}{P:Prop}{b:Decidable P}{d a:StateT SortSt Sem α}{Q:α->SortSt->Prop}(c:¬ P) (h:wpS (model prog w) A E s a Q st):wpS (model prog w) A E s (@ite _ P b d a) Q st:=by rw[if_neg c];exact h
theorem kF {α:Type}{P:Prop}{c:Decidable P}{a b:StateT SortSt Sem α}{Q:α->SortSt->Prop}(e:P->wpS (model prog w) A E s a Q st) (d:¬ P->wpS (model prog w) A E s b Q st):wpS (model prog w) A E s (@ite _ P c a b) Q st:=by
 by_cases h:P
 ·exact uA h (e h)
 ·exact uz h (d h)
theorem v_ {α:Type}{F:Nat->StateT SortSt Sem α}{P:Prop}{c:Decidable P}{x y:Nat}{b:StateT SortSt Sem α}{Q:α->SortSt->Prop}(e:b=F x) (a:∀z,wpS (model prog w) A E s (F z) Q st):wpS (model prog w) A E s (if P then b else F y) Q st:=by
 split
 ·rw[e];exact a _
 ·exact a _
theorem rW {α:Type}{F:Array Keyed->Nat->StateT SortSt Sem α}{P:Prop}{f:Decidable P}{o:Array Keyed}{c:StateT SortSt Sem α}{Q:α->SortSt->Prop}(C:Array Keyed->Nat->Prop) (a:∀o i,C o i->wpS (model prog w) A E s (F o i) Q st)
  (d:P->(∀o i,C o i->wpS (model prog w) A E s (F o i) Q st)->wpS (model prog w) A E s c Q st) (e:¬ P->C o i):wpS (model prog w) A E s (if P then c else F o i) Q st:=by
 split
 ·rename_i b;exact d b a
 ·rename_i b;exact a _ _ (e b)
theorem ra {x:Keyed}{l:List Keyed}(h:Asc kn (x::l)):∀y∈x::l,kn x<=kn y:=λy a=>by
 rcases yg a with rfl|a
 ·exact cS _
 ·exact(cy.mp h).1 y a
structure LoM (a b:Array Keyed) (n:Nat) (out:Array Keyed) (ia ib:Nat):Prop where
 m:MI kn (a.toList++b.toList) out.toList (a.toList.drop ia) (b.toList.drop ib)
 l1:ia+1<a.size
 l2:ib<b.size
 l3:n<=ia+ib
def lI (t:List Keyed) (r:Array Keyed):Prop:=Asc kn r.toList/\r.toList.Perm t
inductive EndQ {β:Type}(t:List Keyed) (st:SortSt):Option (Array Keyed)×β->SortSt->Prop
 | mk {r:Array Keyed}{x:β}{g:Nat}(h:lI t r):EndQ t st (some r,x) (setG st g)
inductive LoI (a b:Array Keyed) (st:SortSt) (n:Nat):Option (Array Keyed)×Array Keyed×Nat×Nat×Nat->SortSt->Prop
 | mk {out:Array Keyed}{ia ib mg g:Nat}(h:LoM a b n out ia ib):LoI a b st n (none,out,ia,ib,mg) (setG st g)
inductive LoI1 (a b:Array Keyed) (st:SortSt) (g n:Nat):Option (Array Keyed)×Array Keyed×Nat×Nat×Nat×Nat->SortSt->Prop
 | mk {out:Array Keyed}{ia ib ac bc:Nat}(h:LoM a b n out ia ib):LoI1 a b st g n (none,out,ia,ib,ac,bc) (setG st g)
inductive LoQ1 (a b:Array Keyed) (st:SortSt) (g n:Nat):Option (Array Keyed)×Array Keyed×Nat×Nat×Nat×Nat->SortSt->Prop
 | good {r:Array Keyed}{x:Array Keyed×Nat×Nat×Nat×Nat}(h:lI (a.toList++b.toList) r):LoQ1 a b st g n (some r,x) (setG st g)
 | go {out:Array Keyed}{ia ib ac bc:Nat}(h:LoM a b n out ia ib):LoQ1 a b st g n (none,out,ia,ib,ac,bc) (setG st g)
inductive LoI2 (a b:Array Keyed) (st:SortSt) (n:Nat):Option (Array Keyed)×Array Keyed×Nat×Nat×Nat×Nat×Nat->SortSt->Prop
 | mk {out:Array Keyed}{ia ib mg ac bc g:Nat}(h:LoM a b n out ia ib):LoI2 a b st n (none,out,ia,ib,mg,ac,bc) (setG st g)
inductive LoQ2 (a b:Array Keyed) (st:SortSt) (n:Nat):Option (Array Keyed)×Array Keyed×Nat×Nat×Nat×Nat×Nat->SortSt->Prop
 | good {r:Array Keyed}{x:Array Keyed×Nat×Nat×Nat×Nat×Nat}{g:Nat}(h:lI (a.toList++b.toList) r):LoQ2 a b st n (some r,x) (setG st g)
 | go {out:Array Keyed}{ia ib mg ac bc g:Nat}(h:LoM a b n out ia ib):LoQ2 a b st n (none,out,ia,ib,mg,ac,bc) (setG st g)
structure LoC (a b:Array Keyed) (p:Keyed) (n ib:Nat) (o:Array Keyed) (i:Nat):Prop where
 m:MI kn (a.toList++b.toList) o.toList (a.toList.drop i) (b.toList.drop ib)
 l1:i+1<a.size
 lt:∀y∈a.toList.drop i,kn p<kn y
 l3:n<=i+ib
structure LoD (a b:Array Keyed) (q:Keyed) (n i:Nat) (o:Array Keyed) (j:Nat):Prop where
 m:MI kn (a.toList++b.toList) o.toList (a.toList.drop i) (b.toList.drop j)
 l2:j<b.size
 le:∀y∈b.toList.drop j,kn q<=kn y
 l3:n<=i+j
theorem LoM.el {a b:Array Keyed}{n:Nat}{out:Array Keyed}{c d:Nat}{P:Prop}(h:LoM a b n out c d) (r:MI kn (a.toList++b.toList) out.toList (a.toList.drop c) (b.toList.drop d)->c+1<a.size->d<b.size->n<=c+d->P):P:=r h.m h.l1 h.l2 h.l3
theorem LoI.el {a b:Array Keyed}{st:SortSt}{n:Nat}{c:Option (Array Keyed)×Array Keyed×Nat×Nat×Nat}{d:SortSt}{M:Option (Array Keyed)×Array Keyed×Nat×Nat×Nat->SortSt->Prop}(h:LoI a b st n c d) (r:∀out e f mg g,LoM a b n out e f->M (none,out,e,f,mg) (setG st g)):M c d:=by cases h with|mk h=>exact r _ _ _ _ _ h
theorem LoI1.el {a b:Array Keyed}{st:SortSt}{g n:Nat}{c:Option (Array Keyed)×Array Keyed×Nat×Nat×Nat×Nat}{d:SortSt}{M:Option (Array Keyed)×Array Keyed×Nat×Nat×Nat×Nat->SortSt->Prop}(h:LoI1 a b st g n c d) (r:∀out e f ac i,LoM a b n out e f->M (none,out,e,f,ac,i) (setG st g)):M c d:=by cases h with|mk h=>exact r _ _ _ _ _ h
theorem LoI2.el {a b:Array Keyed}{st:SortSt}{n:Nat}{c:Option (Array Keyed)×Array Keyed×Nat×Nat×Nat×Nat×Nat}{d:SortSt}{M:Option (Array Keyed)×Array Keyed×Nat×Nat×Nat×Nat×Nat->SortSt->Prop}(h:LoI2 a b st n c d) (r:∀out e f mg ac i g,LoM a b n out e f->M (none,out,e,f,mg,ac,i) (setG st g)):M c d:=by cases h with|mk h=>exact r _ _ _ _ _ _ _ h
theorem LoQ1.el {a b:Array Keyed}{st:SortSt}{g n:Nat}{c:Option (Array Keyed)×Array Keyed×Nat×Nat×Nat×Nat}{d:SortSt}{M:Option (Array Keyed)×Array Keyed×Nat×Nat×Nat×Nat->SortSt->Prop}(h:LoQ1 a b st g n c d) (j:∀r x,lI (a.toList++b.toList) r->M (some r,x) (setG st g)) (r:∀out e f ac i,LoM a b n out e f->M (none,out,e,f,ac,i) (setG st g)):M c d:=by
 cases h with
 | good h=>exact j _ _ h
 | go h=>exact r _ _ _ _ _ h
theorem LoQ2.el {a b:Array Keyed}{st:SortSt}{n:Nat}{c:Option (Array Keyed)×Array Keyed×Nat×Nat×Nat×Nat×Nat}{d:SortSt}{M:Option (Array Keyed)×Array Keyed×Nat×Nat×Nat×Nat×Nat->SortSt->Prop}(h:LoQ2 a b st n c d) (j:∀r x g,lI (a.toList++b.toList) r->M (some r,x) (setG st g)) (r:∀out e f mg ac i g,LoM a b n out e f->M (none,out,e,f,mg,ac,i) (setG st g)):M c d:=by
 cases h with
 | good h=>exact j _ _ _ h
 | go h=>exact r _ _ _ _ _ _ _ h
theorem LoC.el {a b:Array Keyed}{p:Keyed}{n c:Nat}{o:Array Keyed}{P:Prop}(h:LoC a b p n c o i) (r:MI kn (a.toList++b.toList) o.toList (a.toList.drop i) (b.toList.drop c)->i+1<a.size->(∀y∈a.toList.drop i,kn p<kn y)->n<=i+c->P):P:=r h.m h.l1 h.lt h.l3
theorem LoD.el {a b:Array Keyed}{q:Keyed}{n:Nat}{o:Array Keyed}{P:Prop}(h:LoD a b q n i o j) (r:MI kn (a.toList++b.toList) o.toList (a.toList.drop i) (b.toList.drop j)->j<b.size->(∀y∈b.toList.drop j,kn q<=kn y)->n<=i+j->P):P:=r h.m h.l2 h.le h.l3
theorem zf {a b:Nat}(h:a<=b) (c:k<=b-a):a+k<=b:=bY h▸aI c a
theorem GS {a b:Array Keyed}{Q:Array Keyed->SortSt->Prop}(hk:kindOf st=oneType') (ja:∀p∈a.toList,IntP p) (jb:∀p∈b.toList,IntP p) (sa:Asc kn a.toList) (sb:Asc kn b.toList) (na:0<a.size) (nb:0<b.size)
  (h0:∀p∈b.toList.take 1,∀y∈a.toList,kn p<=kn y) (hl:∀x∈b.toList,∀y∈a.toList.drop (a.size-1),kn x<=kn y)
  (h:∀out g,lI (a.toList++b.toList) out->Q out (setG st g)):wpS (model prog w) A E s (mergeLo' a b) Q st:=by
 have Y:∀(out:Array Keyed) (d f:Nat),MI kn (a.toList++b.toList) out.toList (a.toList.drop d) (b.toList.drop f)->(a.size<=d\/b.size<=f)->lI (a.toList++b.toList) (out++a.extract d a.size++b.extract f b.size):=λout d f m hz=>by
  unfold lI;rw[bX,bX,sB,sB];refine m.done ?_;rcases hz with z|z
  ·exact .inl (d7 (by simpa using z))
  ·exact .inr (d7 (by simpa using z))
 have lA:∀(out:Array Keyed) (d f:Nat),MI kn (a.toList++b.toList) out.toList (a.toList.drop d) (b.toList.drop f)->d+1=a.size->lI (a.toList++b.toList) (out++b.extract f b.size++a.extract d a.size):=λout d f m hz=>by unfold lI;rw[bX,bX,sB,sB];refine m.last λx J y C=>hl x (bP J) y ?_;rw[show a.size-1=d by exact Eq.symm (Nat.eq_sub_of_add_eq hz)];exact C
 have pB:∀{out:Array Keyed}{d f:Nat}{p:Keyed},b.toList.drop f=p::b.toList.drop (f+1)->MI kn (a.toList++b.toList) out.toList (a.toList.drop d) (b.toList.drop f)->(∀y∈a.toList.drop d,kn p<=kn y)->MI kn (a.toList++b.toList) (out.push p).toList (a.toList.drop d) (b.toList.drop (f+1)):=λ{out d f p} e m F=>by rw[gc];refine MI.right (P:=[p]) (by rw[e] at m;exact m) λx J y C=>?_;rw[yb J];exact F y C
 have pA:∀{out:Array Keyed}{d f:Nat}{p:Keyed},a.toList.drop d=p::a.toList.drop (d+1)->MI kn (a.toList++b.toList) out.toList (a.toList.drop d) (b.toList.drop f)->(∀y∈b.toList.drop f,kn p<=kn y)->MI kn (a.toList++b.toList) (out.push p).toList (a.toList.drop (d+1)) (b.toList.drop f):=λ{out d f p} e m F=>by rw[gc];refine MI.left (P:=[p]) (by rw[e] at m;exact m) λx J y C=>?_;rw[yb J];exact F y C
 have bA:∀{out:Array Keyed}{d f k:Nat},MI kn (a.toList++b.toList) out.toList (a.toList.drop d) (b.toList.drop f)->(∀p∈(a.toList.drop d).take k,∀y∈b.toList.drop f,kn p<=kn y)->MI kn (a.toList++b.toList) (out++a.extract d (d+k)).toList (a.toList.drop (d+k)) (b.toList.drop f):=λ{out d f k} m F=>by rw[bX,pj,show d+k-d=k by exact z10];refine MI.left (P:=(a.toList.drop d).take k) ?_ F;rw[<-eC,bU];exact m
 have bB:∀{out:Array Keyed}{d f k:Nat},MI kn (a.toList++b.toList) out.toList (a.toList.drop d) (b.toList.drop f)->(∀p∈(b.toList.drop f).take k,∀y∈a.toList.drop d,kn p<=kn y)->MI kn (a.toList++b.toList) (out++b.extract f (f+k)).toList (a.toList.drop d) (b.toList.drop (f+k)):=λ{out d f k} m F=>by rw[bX,pj,show f+k-f=k by exact z10];refine MI.right (P:=(b.toList.drop f).take k) ?_ F;rw[<-eC,bU];exact m
 have a1:a.toList.length=a.size:=a_;have a2:b.toList.length=b.size:=a_;refine wpS_bind (wpS_lift (fQ ⟨rfl,?_⟩));refine cG (qW nb) λp0 e0=>?_;refine wpS_bind (lm (ow e0) ?_);have m0:MI kn (a.toList++b.toList) (#[p0]:Array Keyed).toList (a.toList.drop 0) (b.toList.drop 1):=by refine pB (out:=#[]) e0 ⟨List.Perm.refl _,j7,sa,sb,λx J=>by cases J⟩ λy C=>h0 p0 ?_ y C;rw[lu] at e0;rw[e0];exact aR ..
 refine kF (λc1=>?_) λc1=>?_
 ·exact wpS_pure (h _ (gallopOf st) (Y _ _ _ m0 (.inr (bf (beq_iff_eq.mp c1).symm))))
 refine kF (λc2=>?_) λc2=>?_
 ·exact wpS_pure (h _ (gallopOf st) (lA _ _ _ m0 (beq_iff_eq.mp c2)))
 simp only[beq_iff_eq] at c1 c2;refine wpS_bind (wpS_get ?_);refine wpS_bind (wpS_mono (wpS_forRange (I:=λx c l=>LoI a b st (x+1) c l) (Q:=λc l=>EndQ (a.toList++b.toList) st c l) ?step ?fin (LoI.mk (g:=gallopOf st) ⟨m0,bv na c2,bv nb c1,az _⟩)) ?post)
 case post =>
  intro c l u;cases u with
  | @mk r x g Z=>exact wpS_pure (h _ g Z)
 case fin =>
  intro c l u;cases u with
  | @mk out d f mg g t=>exact absurd (aa (cL (e9 _ _)) t.l3) (di (gu (Nat.add_lt_add (fC t.l1) t.l2)))
 case step =>
  intro x c l _ J u;apply u.el;intro out d f mg g t;clear u;refine t.el λm H K O=>?_;clear t;refine wpS_bind (wpS_mono (wpS_forRange (I:=λy c l=>LoI1 a b st g (x+1+y) c l) (Q:=λc l=>LoQ1 a b st g (x+2) c l) ?step1 ?fin1 (LoI1.mk ⟨m,H,K,O⟩)) ?post1)
  case fin1 =>
   intro c l u;refine u.el λout d f ac X t=>?_;exact LoQ1.go ⟨t.m,t.l1,t.l2,aa (aI (aa (aa na (aY _ _)) (e9 _ _)) (x+1)) t.l3⟩
  case step1 =>
   intro y c l _ C u;apply u.el;intro out d f ac X t;clear u;refine t.el λm H K O=>?_;clear t;dsimp only;refine cG (qW K) λp ep=>?_;refine cG (qW (arr:=a) (i:=d) (by exact fC H)) λq G=>?_;have F:IntP p:=jb p (bP (by rw[ep];exact aR ..));have u:IntP q:=ja q (bP (by rw[G];exact aR ..));have V:=ra (by have:=m.sa;rw[G] at this;exact this);have W:=ra (by have:=m.sb;rw[ep] at this;exact this);rw[<-G] at V;rw[<-ep] at W;refine wpS_bind (lm (ow ep) (wpS_bind (lm (ow G) (wpS_bind (r8 hk F u ?_)))))
   by_cases R:kn p<kn q
   ·rw[decide_eq_true R];refine uA rfl ?_;refine wpS_bind (lm (ow ep) ?_);have D:=pB ep m λy C=>by have:=V y C;exact z11 R this
    refine kF (λv=>?_) λv=>?_
    ·exact wpS_pure (LoQ1.good (Y _ _ _ D (.inr (bf (beq_iff_eq.mp v).symm))))
    ·simp only[beq_iff_eq] at v;refine kF (λB=>?_) λB=>?_
     ·exact wpS_pure (LoQ1.go ⟨D,H,bv K v,by exact z12 O⟩)
     ·exact wpS_pure (LoI1.mk ⟨D,H,bv K v,by exact cL O⟩)
   ·rw[decide_eq_false R];refine uz (by decide) ?_;refine wpS_bind (lm (ow G) ?_);have D:=pA G m λy C=>by have:=W y C;exact z13 R this
    refine kF (λv=>?_) λv=>?_
    ·exact wpS_pure (LoQ1.good (lA _ _ _ D (beq_iff_eq.mp v)))
    ·simp only[beq_iff_eq] at v;refine kF (λB=>?_) λB=>?_
     ·exact wpS_pure (LoQ1.go ⟨D,bv H v,K,by exact z14 O⟩)
     ·exact wpS_pure (LoI1.mk ⟨D,bv H v,K,by exact z15 O⟩)
  case post1 =>
   intro c l u;apply u.el
   ·intro r x' Z;exact wpS_pure (EndQ.mk Z)
   intro out d f ac X t;clear u;refine t.el λm H K O=>?_;clear t;refine wpS_bind (wpS_lift (fQ ⟨rfl,?_⟩));refine wpS_bind (wpS_mono (wpS_forRange (I:=λ_ c l=>LoI2 a b st (x+2) c l) (Q:=λc l=>LoQ2 a b st (x+2) c l) ?step2 ?fin2 (LoI2.mk ⟨m,H,K,O⟩)) ?post2)
   case fin2 =>
    intro c l u;exact u.el λout d f mg ac X g t=>LoQ2.go t
   case post2 =>
    intro c l u;apply u.el
    ·intro r x' g Z;exact wpS_pure (EndQ.mk Z)
    intro out d f mg ac X g t;exact wpS_bind (sQ (wpS_pure (LoI.mk ⟨t.m,t.l1,t.l2,t.l3⟩)))
   case step2 =>
    intro y c l _ C u;apply u.el;intro out d f mg ac X g t;clear u;refine t.el λm H K O=>?_;clear t;apply v_ (y:=mg) (x:=mg-1)
    case e=>rfl
    intro z;refine wpS_bind (sQ ?_);refine cG (qW K) λp ep=>?_;have F:IntP p:=jb p (bP (by rw[ep];exact aR ..));have W:=ra (by have:=m.sb;rw[ep] at this;exact this);rw[<-ep] at W;refine wpS_bind (lm (ow ep) (wpS_bind (galR (base:=d) (n:=a.size-d) (hint:=0) (L:=a.toList.drop d) hk F (be (by simp)) (by simp) m.sa (λp F=>ja p (bP F)) (by exact z16 H) λk k1 k2 k3=>?_)));rw[eC] at k3;apply rW (o:=out) (i:=d) (LoC a b p (x+2) f)
    ·intro o i M;refine M.el λmo li lt T=>?_;clear M;dsimp only;refine wpS_bind (lm (ow ep) ?_);have D:=pB ep mo λy C=>aj (lt y C);refine kF (λv=>?_) λv=>?_
     ·exact wpS_pure (LoQ2.good (Y _ _ _ D (.inr (bf (beq_iff_eq.mp v).symm))))
     simp only[beq_iff_eq] at v;refine cG (qW (arr:=a) (i:=i) (by exact fC li)) λq G=>?_;have u:IntP q:=ja q (bP (by rw[G];exact aR ..));have S:f+1<b.size:=bv K v;have T:x+2<=i+(f+1):=by exact dY T
     generalize f+1=a0 at D S T ⊢;generalize o.push p=o2 at D ⊢;refine wpS_bind (lm (ow G) (wpS_bind (galL (L:=b.toList.drop a0) hk u (be (by simp)) (by simp) D.sb (λp F=>jb p (bP F)) (dX S) λk' j1 j2 j3=>?_)));rw[eC] at j3;have V:=ra (by have:=D.sa;rw[G] at this;exact this);rw[<-G] at V;apply rW (o:=o2) (i:=a0) (LoD a b q (x+2) i)
     ·intro o j M;refine M.el λmo lj lt T=>?_;clear M;refine wpS_bind (lm (ow G) ?_);have U:=pA G mo lt;refine kF (λB=>?_) λB=>?_
      ·exact wpS_pure (LoQ2.good (lA _ _ _ U (beq_iff_eq.mp B)))
      simp only[beq_iff_eq] at B;refine kF (λd3=>?_) λd3=>?_
      ·exact wpS_pure (LoQ2.go ⟨U,bv li B,lj,by exact z17 T⟩)
      ·exact wpS_pure (LoI2.mk ⟨U,bv li B,lj,by exact z17 T⟩)
     ·intro N go;have U:=bB (k:=k') D λx J y C=>aj (bL (j2 x J) (V y C));refine kF (λB=>?_) λB=>?_
      ·exact wpS_pure (LoQ2.good (Y _ _ _ U (.inr (bf (beq_iff_eq.mp B).symm))))
      simp only[beq_iff_eq] at B;exact go _ _ ⟨U,bv (zf (aX S) j1) B,j3,by exact z18 T⟩
     ·intro N;have:k'=0:=by exact iR N
      subst this;exact⟨D,S,j3,T⟩
    ·intro N go;have D:=bA (k:=k) m λx J y C=>ai (k2 x J) (W y C);refine kF (λv=>?_) λv=>?_
     ·exact wpS_pure (LoQ2.good (lA _ _ _ D (beq_iff_eq.mp v)))
     refine kF (λB=>?_) λB=>?_
     ·exact wpS_pure (LoQ2.good (Y _ _ _ D (.inl (bf (beq_iff_eq.mp B).symm))))
     simp only[beq_iff_eq] at v B;exact go _ _ ⟨D,bv (bv (zf (aX (fC H)) k1) B) v,k3,by exact z19 O⟩
    ·intro N;have:k=0:=by exact iR N
     subst this;exact⟨m,H,k3,by exact z20 O⟩
end
end Mine
namespace Mine
open PySem PyProof.Rows
noncomputable def mergeHi':Array Keyed->Array Keyed->StateT SortSt Sem (Array Keyed):=sortPriv% PySem.Builtin.mergeHi
section
variable {prog:Program}{w:World}{A:Around}{E:Value->Shared->Prop}{s:Shared}{st:SortSt}
theorem qY {arr:Array Keyed}(a:1<=i) (h:i<=arr.size):∃p,arr.toList.take i=arr.toList.take (i-1)++[p]/\arr[i-1]?=some p:=by
 have b:i-1<arr.toList.length:=by simp;exact Nat.sub_one_lt_of_le a h
 refine⟨arr.toList[i-1],?_,?_⟩
 ·have:=cM (l:=arr.toList) (i:=i-1);rw[show i-1+1=i by exact cY a,ak b] at this;exact this
 ·rw[<-cD];exact ak b
theorem rL {arr:Array Keyed}{n:Nat}:(arr.extract 0 n).toList=arr.toList.take n:=by rw[pj];simp
theorem qv {x:Keyed}{l:List Keyed}(h:Asc kn (l++[x])):∀y∈l++[x],kn y<=kn x:=λy a=>by
 rcases yd a with z|z
 ·exact h.app.2.2 y z x (yn rfl)
 ·rw[yb z];exact cS _
structure HiM (a b:Array Keyed) (n:Nat) (out:Array Keyed) (ia ib:Nat):Prop where
 m:MJ kn (a.toList++b.toList) (a.toList.take ia) (b.toList.take ib) out.toList.reverse
 l1:1<=ia
 l2:ia<=a.size
 l3:2<=ib
 l4:ib<=b.size
 l5:ia+ib+n<=a.size+b.size
inductive HiI (a b:Array Keyed) (st:SortSt) (n:Nat):Option (Array Keyed)×Nat×Nat×Array Keyed×Nat->SortSt->Prop
 | mk {out:Array Keyed}{ia ib mg g:Nat}(h:HiM a b n out ia ib):HiI a b st n (none,ia,ib,out,mg) (setG st g)
inductive HiI1 (a b:Array Keyed) (st:SortSt) (g n:Nat):Option (Array Keyed)×Nat×Nat×Array Keyed×Nat×Nat->SortSt->Prop
 | mk {out:Array Keyed}{ia ib ac bc:Nat}(h:HiM a b n out ia ib):HiI1 a b st g n (none,ia,ib,out,ac,bc) (setG st g)
inductive HiQ1 (a b:Array Keyed) (st:SortSt) (g n:Nat):Option (Array Keyed)×Nat×Nat×Array Keyed×Nat×Nat->SortSt->Prop
 | good {r:Array Keyed}{x:Nat×Nat×Array Keyed×Nat×Nat}(h:lI (a.toList++b.toList) r):HiQ1 a b st g n (some r,x) (setG st g)
 | go {out:Array Keyed}{ia ib ac bc:Nat}(h:HiM a b n out ia ib):HiQ1 a b st g n (none,ia,ib,out,ac,bc) (setG st g)
inductive HiI2 (a b:Array Keyed) (st:SortSt) (n:Nat):Option (Array Keyed)×Nat×Nat×Array Keyed×Nat×Nat×Nat->SortSt->Prop
 | mk {out:Array Keyed}{ia ib mg ac bc g:Nat}(h:HiM a b n out ia ib):HiI2 a b st n (none,ia,ib,out,mg,ac,bc) (setG st g)
inductive HiQ2 (a b:Array Keyed) (st:SortSt) (n:Nat):Option (Array Keyed)×Nat×Nat×Array Keyed×Nat×Nat×Nat->SortSt->Prop
 | good {r:Array Keyed}{x:Nat×Nat×Array Keyed×Nat×Nat×Nat}{g:Nat}(h:lI (a.toList++b.toList) r):HiQ2 a b st n (some r,x) (setG st g)
 | go {out:Array Keyed}{ia ib mg ac bc g:Nat}(h:HiM a b n out ia ib):HiQ2 a b st n (none,ia,ib,out,mg,ac,bc) (setG st g)
structure HiC (a b:Array Keyed) (p:Keyed) (n ib:Nat) (o:Array Keyed) (i:Nat):Prop where
 m:MJ kn (a.toList++b.toList) (a.toList.take i) (b.toList.take ib) o.toList.reverse
 l1:1<=i
 l2:i<=a.size
 le:∀y∈a.toList.take i,kn y<=kn p
 l3:i+ib+n<=a.size+b.size
structure HiD (a b:Array Keyed) (q:Keyed) (n i:Nat) (o:Array Keyed) (j:Nat):Prop where
 m:MJ kn (a.toList++b.toList) (a.toList.take i) (b.toList.take j) o.toList.reverse
 l1:2<=j
 l2:j<=b.size
 le:∀y∈b.toList.take j,kn y<=kn q
 l3:i+j+n<=a.size+b.size
theorem HiM.el {a b:Array Keyed}{n:Nat}{out:Array Keyed}{c d:Nat}{P:Prop}(h:HiM a b n out c d) (r:MJ kn (a.toList++b.toList) (a.toList.take c) (b.toList.take d) out.toList.reverse->1<=c->c<=a.size->2<=d->d<=b.size->c+d+n<=a.size+b.size->P):P:=r h.m h.l1 h.l2 h.l3 h.l4 h.l5
theorem HiI.el {a b:Array Keyed}{st:SortSt}{n:Nat}{c:Option (Array Keyed)×Nat×Nat×Array Keyed×Nat}{d:SortSt}{M:Option (Array Keyed)×Nat×Nat×Array Keyed×Nat->SortSt->Prop}(h:HiI a b st n c d) (r:∀out e f mg g,HiM a b n out e f->M (none,e,f,out,mg) (setG st g)):M c d:=by cases h with|mk h=>exact r _ _ _ _ _ h
theorem HiI1.el {a b:Array Keyed}{st:SortSt}{g n:Nat}{c:Option (Array Keyed)×Nat×Nat×Array Keyed×Nat×Nat}{d:SortSt}{M:Option (Array Keyed)×Nat×Nat×Array Keyed×Nat×Nat->SortSt->Prop}(h:HiI1 a b st g n c d) (r:∀out e f ac i,HiM a b n out e f->M (none,e,f,out,ac,i) (setG st g)):M c d:=by cases h with|mk h=>exact r _ _ _ _ _ h
theorem HiI2.el {a b:Array Keyed}{st:SortSt}{n:Nat}{c:Option (Array Keyed)×Nat×Nat×Array Keyed×Nat×Nat×Nat}{d:SortSt}{M:Option (Array Keyed)×Nat×Nat×Array Keyed×Nat×Nat×Nat->SortSt->Prop}(h:HiI2 a b st n c d) (r:∀out e f mg ac i g,HiM a b n out e f->M (none,e,f,out,mg,ac,i) (setG st g)):M c d:=by cases h with|mk h=>exact r _ _ _ _ _ _ _ h
theorem HiQ1.el {a b:Array Keyed}{st:SortSt}{g n:Nat}{c:Option (Array Keyed)×Nat×Nat×Array Keyed×Nat×Nat}{d:SortSt}{M:Option (Array Keyed)×Nat×Nat×Array Keyed×Nat×Nat->SortSt->Prop}(h:HiQ1 a b st g n c d) (j:∀r x,lI (a.toList++b.toList) r->M (some r,x) (setG st g)) (r:∀out e f ac i,HiM a b n out e f->M (none,e,f,out,ac,i) (setG st g)):M c d:=by
 cases h with
 | good h=>exact j _ _ h
 | go h=>exact r _ _ _ _ _ h
theorem HiQ2.el {a b:Array Keyed}{st:SortSt}{n:Nat}{c:Option (Array Keyed)×Nat×Nat×Array Keyed×Nat×Nat×Nat}{d:SortSt}{M:Option (Array Keyed)×Nat×Nat×Array Keyed×Nat×Nat×Nat->SortSt->Prop}(h:HiQ2 a b st n c d) (j:∀r x g,lI (a.toList++b.toList) r->M (some r,x) (setG st g)) (r:∀out e f mg ac i g,HiM a b n out e f->M (none,e,f,out,mg,ac,i) (setG st g)):M c d:=by
 cases h with
 | good h=>exact j _ _ _ h
 | go h=>exact r _ _ _ _ _ _ _ h
theorem Dk {a b:Nat}(h:0<a):a-1+b+(0+1)<=a+b:=by
 cases a with
 | zero=>cases h
 | succ a=>exact bf (Nat.succ_add a b).symm
theorem GR {a b:Array Keyed}{Q:Array Keyed->SortSt->Prop}(hk:kindOf st=oneType') (ja:∀p∈a.toList,IntP p) (jb:∀p∈b.toList,IntP p) (sa:Asc kn a.toList) (sb:Asc kn b.toList) (na:0<a.size) (nb:0<b.size)
  (h0:∀p∈b.toList.take 1,∀y∈a.toList,kn p<=kn y) (hl:∀x∈b.toList,∀y∈a.toList.drop (a.size-1),kn x<=kn y)
  (h:∀out g,lI (a.toList++b.toList) out->Q out (setG st g)):wpS (model prog w) A E s (mergeHi' a b) Q st:=by
 have dn:∀(out:Array Keyed) (f d:Nat),MJ kn (a.toList++b.toList) (a.toList.take f) (b.toList.take d) out.toList.reverse->(f=0\/d=0)->lI (a.toList++b.toList) (a.extract 0 f++b.extract 0 d++out.reverse):=λout f d m hz=>by
  unfold lI;rw[bX,bX,rL,rL,gL];refine m.done ?_;rcases hz with z|z
  ·exact .inl (by rw[z];rfl)
  ·exact .inr (by rw[z];rfl)
 have fB:∀(out:Array Keyed) (f d:Nat),MJ kn (a.toList++b.toList) (a.toList.take f) (b.toList.take d) out.toList.reverse->d=1->lI (a.toList++b.toList) (b.extract 0 d++a.extract 0 f++out.reverse):=λout f d m hz=>by unfold lI;rw[bX,bX,rL,rL,gL];refine m.first λx T y C=>h0 x (by rw[hz] at T;exact T) y (bq C)
 have pA:∀{out:Array Keyed}{f d:Nat}{p:Keyed},a.toList.take f=a.toList.take (f-1)++[p]->MJ kn (a.toList++b.toList) (a.toList.take f) (b.toList.take d) out.toList.reverse->(∀y∈b.toList.take d,kn y<=kn p)->MJ kn (a.toList++b.toList) (a.toList.take (f-1)) (b.toList.take d) (out.push p).toList.reverse:=λ{out f d p} e m G=>by rw[gc,fP];refine MJ.left (P:=[p]) (by rw[e] at m;exact m) λx T y C=>?_;rw[yb T];exact G y C
 have pB:∀{out:Array Keyed}{f d:Nat}{p:Keyed},b.toList.take d=b.toList.take (d-1)++[p]->MJ kn (a.toList++b.toList) (a.toList.take f) (b.toList.take d) out.toList.reverse->(∀y∈a.toList.take f,kn y<=kn p)->MJ kn (a.toList++b.toList) (a.toList.take f) (b.toList.take (d-1)) (out.push p).toList.reverse:=λ{out f d p} e m G=>by rw[gc,fP];refine MJ.right (P:=[p]) (by rw[e] at m;exact m) λx T y C=>?_;rw[yb T];exact G y C
 have sp:∀(l:List Keyed){i j:Nat},i<=j->l.take j=l.take i++(l.drop i).take (j-i):=λl i j a6=>by
  have:l.take j=l.take (i+(j-i)):=by rw[show i+(j-i)=j by exact Nat.add_sub_of_le a6]
  rw[this,List.take_add]
 have bA:∀{out:Array Keyed}{f d i:Nat},i<=f->MJ kn (a.toList++b.toList) (a.toList.take f) (b.toList.take d) out.toList.reverse->(∀p∈(a.toList.drop i).take (f-i),∀y∈b.toList.take d,kn y<=kn p)->MJ kn (a.toList++b.toList) (a.toList.take i) (b.toList.take d) (out++(a.extract i f).reverse).toList.reverse:=λ{out f d i} hi m G=>by rw[bX,fP,gL,mW,pj];rw[sp a.toList hi] at m;exact m.left G
 have bB:∀{out:Array Keyed}{f d i:Nat},i<=d->MJ kn (a.toList++b.toList) (a.toList.take f) (b.toList.take d) out.toList.reverse->(∀p∈(b.toList.drop i).take (d-i),∀y∈a.toList.take f,kn y<=kn p)->MJ kn (a.toList++b.toList) (a.toList.take f) (b.toList.take i) (out++(b.extract i d).reverse).toList.reverse:=λ{out f d i} hi m G=>by rw[bX,fP,gL,mW,pj];rw[sp b.toList hi] at m;exact m.right G
 have dt:∀(l:List Keyed) (m n:Nat),(l.take n).drop m=(l.drop m).take (n-m):=λl m n=>List.drop_take;have a0:a.toList.length=a.size:=a_;have a3:b.toList.length=b.size:=a_;refine wpS_bind (wpS_lift (fQ ⟨rfl,?_⟩));refine aK (qY (arr:=a) (i:=a.size) na (az _)) λp0 e0 a5=>?_;refine wpS_bind (lm a5 ?_);have ta:a.toList.take a.size=a.toList:=be (by exact bf a0);have tb:b.toList.take b.size=b.toList:=be (by exact bf a3);have m0:MJ kn (a.toList++b.toList) (a.toList.take (a.size-1)) (b.toList.take b.size) (#[p0]:Array Keyed).toList.reverse:=by
  refine pA (out:=#[]) e0 ⟨by rw[ta,tb];simp,j7,by rw[ta];exact sa,by rw[tb];exact sb,λx _ y C=>by cases C⟩ λy C=>hl y (bq C) p0 ?_;rw[ta] at e0;rw[e0];have:(a.toList.take (a.size-1)).length=a.size-1:=by rw[b9];exact z21 a0
  rw[c8 (by exact bf (id (Eq.symm this))),List.drop_of_length_le (by exact bf this)];simp
 refine kF (λc1=>?_) λc1=>?_
 ·exact wpS_pure (h _ (gallopOf st) (dn _ _ _ m0 (.inl (beq_iff_eq.mp c1))))
 refine kF (λc2=>?_) λc2=>?_
 ·exact wpS_pure (h _ (gallopOf st) (fB _ _ _ m0 (beq_iff_eq.mp c2)))
 simp only[beq_iff_eq] at c1 c2;refine wpS_bind (wpS_get ?_);refine wpS_bind (wpS_mono (wpS_forRange (I:=λx c t=>HiI a b st (x+1) c t) (Q:=λc t=>EndQ (a.toList++b.toList) st c t) ?step ?fin (HiI.mk (g:=gallopOf st) ⟨m0,by exact d_.mpr c1,dg _ _,bv nb (Ne.symm c2),az _,Dk na⟩)) ?post)
 case post =>
  intro c t v;cases v with
  | @mk r x g g1=>exact wpS_pure (h _ g g1)
 case fin =>
  intro c t v;cases v with
  | @mk out f d mg g u=>exact absurd (aa (aa (cL (e9 _ _)) (aE _ _)) u.l5) (Nat.not_succ_le_self _)
 case step =>
  intro x c t _ T v;apply v.el;intro out f d mg g u;clear v;refine u.el λm W N K O V=>?_;clear u;refine wpS_bind (wpS_mono (wpS_forRange (I:=λy c t=>HiI1 a b st g (x+1+y) c t) (Q:=λc t=>HiQ1 a b st g (x+2) c t) ?step1 ?fin1 (HiI1.mk ⟨m,W,N,K,O,V⟩)) ?post1)
  case fin1 =>
   intro c t v;exact v.el λout f d ac bc u=>HiQ1.go ⟨u.m,u.l1,u.l2,u.l3,u.l4,aa (aI (aI (aa (aa na (aY _ _)) (e9 _ _)) (x+1)) _) u.l5⟩
  case step1 =>
   intro y c t _ C v;apply v.el;intro out f d ac bc u;clear v;refine u.el λm W N K O V=>?_;clear u;dsimp only;refine aK (qY (arr:=b) (i:=d) (by exact fN K) O) λp ep R=>?_;refine aK (qY (arr:=a) (i:=f) W N) λq X S=>?_;have G:IntP p:=jb p (bq (i:=d) (by rw[ep];simp));have v:IntP q:=ja q (bq (i:=f) (by rw[X];simp));have aA:=qv (by have:=m.sa;rw[X] at this;exact this);have aB:=qv (by have:=m.sb;rw[ep] at this;exact this);rw[<-X] at aA;rw[<-ep] at aB;refine wpS_bind (lm R (wpS_bind (lm S (wpS_bind (r8 hk G v ?_)))))
   by_cases Y:kn p<kn q
   ·rw[decide_eq_true Y];refine uA rfl ?_;refine wpS_bind (lm S ?_);have D:=pA X m λy C=>by have:=aB y C;exact z22 Y this
    refine kF (λB=>?_) λB=>?_
    ·exact wpS_pure (HiQ1.good (dn _ _ _ D (.inl (beq_iff_eq.mp B))))
    ·simp only[beq_iff_eq] at B;refine kF (λH=>?_) λH=>?_
     ·exact wpS_pure (HiQ1.go ⟨D,by exact d_.mpr B,by exact z23 N,K,O,by exact z24 V B⟩)
     ·exact wpS_pure (HiI1.mk ⟨D,by exact d_.mpr B,by exact z23 N,K,O,by exact z25 V B⟩)
   ·rw[decide_eq_false Y];refine uz (by decide) ?_;refine wpS_bind (lm R ?_);have D:=pB ep m λy C=>by have:=aA y C;exact z26 Y this
    refine kF (λB=>?_) λB=>?_
    ·exact wpS_pure (HiQ1.good (fB _ _ _ D (beq_iff_eq.mp B)))
    ·simp only[beq_iff_eq] at B;refine kF (λH=>?_) λH=>?_
     ·exact wpS_pure (HiQ1.go ⟨D,W,N,by exact z27 K B,by exact z23 O,by exact z28 K V⟩)
     ·exact wpS_pure (HiI1.mk ⟨D,W,N,by exact z27 K B,by exact z23 O,by exact z29 K V⟩)
  case post1 =>
   intro c t v;apply v.el
   ·intro r x' g1;exact wpS_pure (EndQ.mk g1)
   intro out f d ac bc u;clear v;refine u.el λm W N K O V=>?_;clear u;refine wpS_bind (wpS_lift (fQ ⟨rfl,?_⟩));refine wpS_bind (wpS_mono (wpS_forRange (I:=λ_ c t=>HiI2 a b st (x+2) c t) (Q:=λc t=>HiQ2 a b st (x+2) c t) ?step2 ?fin2 (HiI2.mk ⟨m,W,N,K,O,V⟩)) ?post2)
   case fin2 =>
    intro c t v;exact v.el λout f d mg ac bc g u=>HiQ2.go u
   case post2 =>
    intro c t v;apply v.el
    ·intro r x' g g1;exact wpS_pure (EndQ.mk g1)
    intro out f d mg ac bc g u;exact wpS_bind (sQ (wpS_pure (HiI.mk ⟨u.m,u.l1,u.l2,u.l3,u.l4,u.l5⟩)))
   case step2 =>
    intro y c t _ C v;apply v.el;intro out f d mg ac bc g u;clear v;refine u.el λm W N K O V=>?_;clear u;apply v_ (y:=mg) (x:=mg-1)
    case e=>rfl
    intro z;dsimp only;refine wpS_bind (sQ ?_);refine aK (qY (arr:=b) (i:=d) (by exact fN K) O) λp ep R=>?_;have G:IntP p:=jb p (bq (i:=d) (by rw[ep];simp));have aB:=qv (by have:=m.sb;rw[ep] at this;exact this);rw[<-ep] at aB;refine wpS_bind (lm R (wpS_bind (galR (L:=a.toList.take f) hk G (by rw[lu]) (by rw[b9];exact z30 a0 N) m.sa (λp G=>ja p (bq G)) (by exact dS W) λk k1 k2 k3=>?_)));dsimp only;rw[lr,show min k f=k by exact bF k1] at k2;rw[dt] at k3;generalize a1:f-k=kk;apply rW (o:=out) (i:=f) (HiC a b p (x+2) d)
    ·intro o i M;have mo:=M.m;have li:=M.l1;have a2:=M.l2;have lt:=M.le;have lx:=M.l3;clear M;refine wpS_bind (lm R ?_);have D:=pB ep mo lt;refine kF (λB=>?_) λB=>?_
     ·exact wpS_pure (HiQ2.good (fB _ _ _ D (beq_iff_eq.mp B)))
     simp only[beq_iff_eq] at B;refine aK (qY (arr:=a) (i:=i) li a2) λq X S=>?_;have v:IntP q:=ja q (bq (i:=i) (by rw[X];simp));have Z:2<=d-1:=by exact z27 K B
     have J:d-1<=b.size:=by exact z23 O
     have lx:i+(d-1)+x+3<=a.size+b.size:=by exact z31 lx Z
     generalize d-1=U at D Z J lx ⊢;generalize o.push p=o2 at D ⊢;refine wpS_bind (lm S (wpS_bind (galL (L:=b.toList.take U) hk v (by rw[lu]) (by rw[b9];exact z30 a3 J) D.sb (λp G=>jb p (bq G)) (by exact dS Z) λk' j1 j2 j3=>?_)));dsimp only;rw[lr,show min k' U=k' by exact bF j1] at j2;rw[dt] at j3;have aA:=qv (by have:=D.sa;rw[X] at this;exact this);rw[<-X] at aA;generalize a7:U-k'=jj;apply rW (o:=o2) (i:=U) (HiD a b q (x+3) i)
     ·intro o j M;have mo:=M.m;have lj:=M.l1;have a4:=M.l2;have lt:=M.le;have lx:=M.l3;clear M;refine wpS_bind (lm S ?_);have m2:=pA X mo lt;refine kF (λH=>?_) λH=>?_
      ·exact wpS_pure (HiQ2.good (dn _ _ _ m2 (.inl (beq_iff_eq.mp H))))
      simp only[beq_iff_eq] at H;refine kF (λd3=>?_) λd3=>?_
      ·exact wpS_pure (HiQ2.go ⟨m2,by exact d_.mpr H,by exact z23 a2,lj,a4,by exact z32 lx⟩)
      ·exact wpS_pure (HiI2.mk ⟨m2,by exact d_.mpr H,by exact z23 a2,lj,a4,by exact z32 lx⟩)
     ·intro F go;have m2:=bB j1 D λx T y C=>ai (aA y C) (j3 x T);refine kF (λH=>?_) λH=>?_
      ·exact wpS_pure (HiQ2.good (fB _ _ _ m2 (beq_iff_eq.mp H)))
      refine kF (λd3=>?_) λd3=>?_
      ·exact wpS_pure (HiQ2.good (dn _ _ _ m2 (.inr (beq_iff_eq.mp d3))))
      simp only[beq_iff_eq] at H d3;exact go _ _ ⟨m2,by exact z33 H d3,by exact aa j1 J,λy C=>aj (j2 y C),by exact z34 lx j1⟩
     ·intro F;have:k'=U:=by exact z35 j1 a7 F
      subst this;exact⟨D,Z,J,λy C=>aj (j2 y C),lx⟩
    ·intro F go;have D:=bA k1 m λx T y C=>ai (aB y C) (aj (k3 x T));refine kF (λB=>?_) λB=>?_
     ·exact wpS_pure (HiQ2.good (dn _ _ _ D (.inl (beq_iff_eq.mp B))))
     simp only[beq_iff_eq] at B;exact go _ _ ⟨D,by exact d_.mpr B,by exact z36 N a1 F,k2,by exact z37 V a1 F⟩
    ·intro F;have:k=f:=by exact z35 k1 a1 F
     subst this;exact⟨m,W,N,k2,by exact z38 V⟩
end
end Mine
namespace Mine
open PySem PyProof.Rows
def Frm (lo:Nat) (xs ys:Array Keyed):Prop:=ys.Perm xs/\∀i,i<lo->ys[i]?=xs[i]?
theorem Frm.refl {lo:Nat}{xs:Array Keyed}:Frm lo xs xs:=⟨Array.Perm.refl _,λ_ _=>rfl⟩
theorem Frm.trans {lo:Nat}{xs ys a:Array Keyed}(h:Frm lo xs ys) (h':Frm lo ys a):Frm lo xs a:=⟨h'.1.trans h.1,λi hi=>(h'.2 i hi).trans (h.2 i hi)⟩
theorem Frm.size {lo:Nat}{xs ys:Array Keyed}(h:Frm lo xs ys):ys.size=xs.size:=h.1.size_eq
theorem Frm.mirror {lo:Nat}{xs:Array Keyed}(a:j<=xs.size) (hi:lo<=i):Frm lo xs (mirror xs i j ((j-i)/2)):=⟨mirror_perm _ _ _ _,λk b=>by rw[getElem?_mirror_all a,if_neg (by exact z39 hi b)]⟩
theorem Frm.bubble {lo src d:Nat}{xs:Array Keyed}(c:src<xs.size) (a:lo+d<=src):Frm lo xs (bubble xs src d):=⟨bubble_perm _ _ _,λk b=>by rw[getElem?_bubble c d (by exact Nat.le_of_add_left_le a),if_neg (by exact z40 a b),if_neg (by exact z41 a b)]⟩
def IntA (xs:Array Keyed):Prop:=∀p∈xs.toList,IntP p
theorem Frm.int {lo:Nat}{xs ys:Array Keyed}(h:Frm lo xs ys) (hi:IntA xs):IntA ys:=λp a=>hi p ((fF.mp h.1).mem_iff.mp a)
def Sg (xs:Array Keyed) (lo n:Nat):Prop:=∀i j,i<=j->j<n->K xs (lo+i)<=K xs (lo+j)
def Dn (xs:Array Keyed) (lo n:Nat):Prop:=∀i j,i<=j->j<n->K xs (lo+j)<=K xs (lo+i)
section
variable {prog:Program}{w:World}{A:Around}{E:Value->Shared->Prop}{s:Shared}{st:SortSt}{xs:Array Keyed}
theorem wF (hi:IntA xs)(h:i<xs.size):∃t q,xs[i]?=some (.int (K xs i) t,q):=by refine kA (hi xs[i] (by simp)) λn t e=>?_;refine⟨t,xs[i].2,?_⟩;have a:xs[i]?=some xs[i]:=getElem?_pos xs i h;have b:xs[i]=(.int n t,xs[i].2):=mR e rfl;unfold K;rw[a,b];rfl
theorem ltX {Q:Option Bool->SortSt->Prop}(g:kindOf st=oneType') (a:IntA xs) (hi:i<xs.size) (f:j<xs.size) (d:K xs i<K xs j->Q (some true) (setArr st xs)) (e:¬ K xs i<K xs j->Q (some false) (setArr st xs)):wpS (model prog w) A E s (ltAt' i j) Q (setArr st xs):=by
 refine kA (wF a hi) λt p b=>?_;refine kA (wF a f) λu q c=>?_;refine wpS_ltAt (st:=setArr st xs) g b c ?_
 by_cases h:K xs i<K xs j
 ·rw[decide_eq_true h];exact d h
 ·rw[decide_eq_false h];exact e h
theorem xo {α:Type}{F d:StateT SortSt Sem α}{P:Prop}{g:Decidable P}{Q:α->SortSt->Prop}(C:SortSt->Prop) (b:∀a,C a->wpS (model prog w) A E s F Q a)
  (e:P->(∀a,C a->wpS (model prog w) A E s F Q a)->wpS (model prog w) A E s d Q st) (f:¬ P->C st):wpS (model prog w) A E s (if P then d else F) Q st:=by
 split
 ·rename_i c;exact e c b
 ·rename_i c;exact b _ (f c)
theorem wH {a b c:Nat}(h:a<b):c+(b-1-a)=c+(c+b)-1-(c+a):=by rw[Nat.sub_sub,Nat.sub_sub,iC 1 c a,jo,fD (by rw[dD];exact h)]
theorem sP {lo x:Nat}(h:1<=x):lo+x-1=lo+(x-1):=fD h lo
theorem wS {lo x n:Nat}(h:n<=x) (b:lo+x-n<=k) (c:k<lo+x):x-n<=k-lo/\k-lo<x/\lo+(k-lo)=k:=by rw[fD h] at b;refine cG (f_ (aa (aY _ _) b)) λi a=>?_;subst a;rw[dm];exact⟨Nat.le_of_add_le_add_left b,Nat.lt_of_add_lt_add_left c,rfl⟩
theorem xR {lo a b:Nat}{f:Nat->Option (Option Nat)×Nat->StateT SortSt Sem (ForInStep (Option (Option Nat)×Nat))}{Q:Option (Option Nat)×Nat->SortSt->Prop}(D:lo+b<=xs.size) (v:1<=a) (q:a<=b) (C:Sg xs lo a)
  (y:∀(x n:Nat) (R:ForInStep (Option (Option Nat)×Nat)->SortSt->Prop),1<=n->n<b->(K xs (lo+n)<K xs (lo+n-1)->R (.done (none,n)) (setArr st xs))->(¬ K xs (lo+n)<K xs (lo+n-1)->R (.yield (none,n+1)) (setArr st xs))->wpS (model prog w) A E s (f x (none,n)) R (setArr st xs))
  (h:∀n,a<=n->n<=b->Sg xs lo n->(n=b\/K xs (lo+n)<K xs (lo+n-1))->Q (none,n) (setArr st xs)) :
  wpS (model prog w) A E s (forIn [a:b] (none,a) f) Q (setArr st xs):=by
 refine wpS_forRange (I:=λx c l=>l=setArr st xs/\c=(none,x)/\Sg xs lo x) ?step ?fin ⟨rfl,rfl,C⟩
 case fin =>
  intro c l e;refine fT (e) λg k d=>?_;clear e;subst g;subst k;rw[show max a b=b by lia] at d ⊢;exact h b q (az _) d (.inl rfl)
 case step =>
  intro x c l m p e;refine fT (e) λg k d=>?_;clear e;subst g;subst k;refine y x x _ (by exact aa v m) p (λt=>h x m (by exact bw p) d (.inr t)) λt=>⟨rfl,rfl,λi j o B=>?_⟩;rcases cB (show j<=x by exact cq B) with r|rfl
  ·exact d i j o r
  ·rcases cB o with z|rfl
   ·have u:=d i (j-1) (by exact dl z) (by exact dS z);rw[<-sP (aw (cX _) z)] at u;exact z26 t u
   ·exact cS _
theorem DX {lo b:Nat}{Q:Option Nat->SortSt->Prop}(T:kindOf st=oneType') (V:IntA xs) (o:lo+b<=xs.size) (h1:1<=b)
  (h:∀m ys,Frm lo xs ys->1<=m->m<=b->Sg ys lo m->Q (some m) (setArr st ys)):wpS (model prog w) A E s (countRun' lo b) Q (setArr st xs):=by
 refine wpS_bind (xR o (az 1) h1 (λi j d l=>by rw[show i=j by exact z42 d l];exact cS _) (λx n R C n2 r1 r2=>?_) λn C n2 O U=>?_)
 ·exact wpS_bind (ltX T V (by lia) (by lia) (λg=>wpS_pure (r1 g)) λg=>wpS_pure (r2 g))
 dsimp only
 by_cases c1:(n == b)=true
 ·rw[if_pos c1];exact wpS_pure (h n xs Frm.refl C n2 O)
 rw[if_neg c1];have a5:n≠b:=by simpa using c1
 have B:=U.resolve_left a5;apply xo (λf=>∃ys,f=setArr st ys/\Frm lo xs ys/\Dn ys lo (n+1))
 ·intro f e;refine eT (e) λys G p v=>?_;clear e;subst G;refine wpS_bind (wpS_lift (fQ ⟨rfl,?_⟩));refine wpS_bind (wpS_mono (wpS_forRange (I:=λx c f=>∃ys a,c=(none,x,a)/\f=setArr st ys/\Frm lo xs ys/\Dn ys lo x/\a+1<=x/\(∀i,x-(a+1)<=i->i<x->K ys (lo+i)=K ys (lo+(x-1))))
   (Q:=λc f=>∃ys m a,c=(none,m,a)/\f=setArr st ys/\Frm lo xs ys/\1<=m/\m<=b/\Dn ys lo m/\a+1<=m/\(∀i,m-(a+1)<=i->i<m->K ys (lo+i)=K ys (lo+(m-1)))) ?step ?fin ⟨ys,0,rfl,rfl,p,v,by exact z43,λi J L=>by rw[show i=n+1-1 by exact dZ J L]⟩) ?post)
  case fin =>
   intro c f e;refine pE (e) λys a H u p v r N=>?_;clear e;subst H;subst u;rw[show max (n+1) b=b by lia] at *;exact⟨ys,b,a,rfl,rfl,p,by exact fN r,az _,v,r,N⟩
  case step =>
   intro x c f a7 q e;refine pE (e) λys a H u p v r N=>?_;clear e;subst H;subst u;have D:=p.size;have M:∀t:Array Keyed,(∀k,K t k=K ys k)->K ys (lo+x)<=K ys (lo+(x-1))->Dn t lo (x+1):=by
    intro t ez a4 i j d l;rw[ez,ez];rcases cB (show j<=x by exact cq l) with a3|rfl
    ·exact v i j d a3
    ·rcases cB d with z|rfl
     ·exact ai a4 (v i (j-1) (by exact dl z) (by exact dS z))
     ·exact cS _
   have ex:lo+x-1=lo+(x-1):=sP (aa (cL (cX _)) r);dsimp only;refine wpS_bind (ltX T (p.int V) (by exact z44 o q D) (by exact z45 o q D) (λg=>?_) λg=>?_)
   ·dsimp only;rw[if_pos rfl];rw[ex] at g
    by_cases hq:a>0
    ·rw[if_pos hq];have F:Frm lo ys (mirror ys (lo+x-(a+1)) (lo+x) ((lo+x-(lo+x-(a+1)))/2)):=Frm.mirror (by exact z46 o q D) (by exact z47 r);refine wpS_bind (wpS_reverse (wpS_pure ⟨_,0,rfl,rfl,p.trans F,M _ (K_mirror_equal (xs:=ys) (by exact z46 o q D) λk k1 k2=>?_) (aj g),by exact z43,λi J L=>by rw[show i=x+1-1 by exact dZ J L]⟩));refine fT (wS r k1 k2) λe1 e2 e3=>?_;have:=N (k-lo) e1 e2;rw[e3] at this;rw[this,ex]
    ·rw[if_neg hq];exact wpS_pure ⟨ys,0,rfl,rfl,p,M _ (λ_=>rfl) (aj g),by exact z43,λi J L=>by rw[show i=x+1-1 by exact dZ J L]⟩
   ·dsimp only;rw[if_neg (by decide)];rw[ex] at g;refine wpS_bind (ltX T (p.int V) (by exact z45 o q D) (by exact z44 o q D) (λy=>?_) λy=>?_)
    ·exact wpS_pure ⟨ys,x,a,rfl,rfl,p,by exact fN r,by exact bw q,v,r,N⟩
    ·rw[ex] at y;refine wpS_pure ⟨ys,a+1,rfl,rfl,p,M _ (λ_=>rfl) (by exact ie.mp y),by exact bz r 1,λi J L=>?_⟩;rw[show x+1-1=x by exact z48];rcases cB (show i<=x by exact cq L) with z|rfl
     ·rw[N i (by exact z49 J) z];exact z50 g y
     ·rfl
  case post =>
   intro c f e;refine lG (e) λys m a u a0 p m1 X=>?_;clear e;subst u;subst a0;refine jA (X) λW v r N=>?_;clear X;dsimp only;have D:=p.size;apply xo (λf=>∃t,f=setArr st t/\Frm lo xs t/\Dn t lo m)
   ·intro f e;refine eT (e) λt G fz dz=>?_;clear e;subst G;have Y:=fz.size;refine wpS_bind (wpS_reverse ?_);have F:Frm lo t (mirror t lo (lo+m) ((lo+m-lo)/2)):=Frm.mirror (by exact z51 o W Y) (az _);have Z:=fz.trans F;have km:=λk=>K_mirror (xs:=t) (i:=lo) (j:=lo+m) (by exact z51 o W Y) k;show wpS (model prog w) A E s _ Q (setArr st (mirror t lo (lo+m) ((lo+m-lo)/2)));generalize mirror t lo (lo+m) ((lo+m-lo)/2)=us at F Z km;have a6:=Z.size;refine wpS_bind (xR (st:=st) (lo:=lo) (xs:=us) (by exact le_of_le_of_eq o (id (Eq.symm a6))) m1 W (λi j d l=>?_) (λx n R C n2 r1 r2=>?_) λn C n2 O U=>?_)
    ·rw[km,km,if_pos (by exact z52 d l),if_pos (by exact z53 l)];have:=dz (m-1-j) (m-1-i) (by exact z54 d) (by exact z55 l);rw[wH l,wH (aw d l)] at this;exact this
    ·exact wpS_bind (ltX T (Z.int V) (by lia) (by lia) (λg=>wpS_pure (r1 g)) λg=>wpS_pure (r2 g))
    ·exact wpS_pure (h n us Z (by exact z56 r C) n2 O)
   ·intro hq go;have F:Frm lo ys (mirror ys (lo+m-(a+1)) (lo+m) ((lo+m-(lo+m-(a+1)))/2)):=Frm.mirror (by exact z51 o W D) (by exact z47 r);refine wpS_bind (wpS_reverse (go _ ⟨_,rfl,p.trans F,λi j d l=>?_⟩));have P:=K_mirror_equal (xs:=ys) (i:=lo+m-(a+1)) (j:=lo+m) (by exact z51 o W D) λk k1 k2=>by refine fT (wS r k1 k2) λe1 e2 e3=>?_;have:=N (k-lo) e1 e2;rw[e3] at this;rw[this,sP m1]
    rw[P,P];exact v i j d l
   ·intro hq;exact⟨ys,rfl,p,v⟩
 ·intro S go;refine wpS_bind (ltX T V (by exact z57 o h1) (by exact z58 o C n2) (λg=>?_) λg=>?_)
  ·exact wpS_pure (h n xs Frm.refl C n2 O)
  ·have ex:lo+n-1=lo+(n-1):=sP C;rw[ex] at g B;have all:∀i,i<n->K xs (lo+i)=K xs (lo+(n-1)):=λi hi=>by have a1:=O 0 i (by exact z5) hi;have a2:=O i (n-1) (by exact dl hi) (by exact dS hi);rw[hA] at a1;exact z59 g a1 a2
   have F:Frm lo xs (mirror xs lo (lo+n) ((lo+n-lo)/2)):=Frm.mirror (by exact z60 o n2) (az _);refine wpS_bind (wpS_reverse (go _ ⟨_,rfl,F,λi j d l=>?_⟩));have P:=K_mirror_equal (xs:=xs) (i:=lo) (j:=lo+n) (by exact z60 o n2) λk k1 k2=>by have:=all (k-lo) (Nat.sub_lt_left_of_lt_add k1 k2);rw[bY k1] at this;rw[this,ex]
   rw[P,P];rcases cB (show j<=n by exact cq l) with z|rfl
   ·rw[all i (by exact aw d z),all j z];exact cS _
   ·rcases cB d with z|rfl
    ·rw[all i z];exact aj B
    ·exact cS _
 ·intro S;have:n=1:=by exact z61 C S
  subst this;refine⟨xs,rfl,Frm.refl,λi j d l=>?_⟩;rw[show lo+1-1=lo by exact z48] at B;rcases cB d with z|rfl
  ·rw[show i=0 by exact z62 l z,show j=1 by exact z63 l z];exact aj B
  ·exact cS _
theorem Dh {l r:Nat}(h:l<r):l<=(l+r)/2/\(l+r)/2<r:=by exact z64 h
theorem zR {a g:Nat->Int}{d:Int}{l:Nat}(s:∀i j,i<=j->j<k->a i<=a j) (m:∀i,i<l->a i<=d) (n:∀i,l<=i->i<k->d<a i) (o:l<=k) (e:∀i,i<l->g i=a i) (f:g l=d) (h:∀i,l<=i->i<k->g (i+1)=a i)(b:i<=j) (c:j<k+1):g i<=g j:=by
 rcases iB j l with q|q|q
 ·rw[e i (aw b q),e j q];exact s i j b (ah q o)
 ·rw[q] at b ⊢;rcases cB b with p|p
  ·rw[e i p,f];exact m i p
  ·rw[p];exact cS _
 ·cases j with
  | zero=>cases q
  | succ j =>
   have c:=Nat.lt_of_succ_lt_succ c;have q:=cq q;rw[h j q c];rcases iB i l with p|p|p
   ·rw[e i p];exact s i j (aa (aX p) q) c
   ·rw[p,f];exact aj (n j q c)
   ·cases i with
    | zero=>cases p
    | succ i =>
     have b:=mB b;rw[h i (cq p) (aw b c)];exact s i j b c
theorem DW {lo n ok:Nat}{Q:Bool->SortSt->Prop}(Z:kindOf st=oneType') (hx:IntA xs) (M:lo+n<=xs.size) (a0:ok<=n) (hs:Sg xs lo ok)
  (h:∀ys,Frm lo xs ys->Sg ys lo n->Q true (setArr st ys)):wpS (model prog w) A E s (binarySort' lo n ok) Q (setArr st xs):=by
 refine wpS_bind (wpS_mono (wpS_forRange (I:=λk c e=>∃ys,c=(none,())/\e=setArr st ys/\Frm lo xs ys/\Sg ys lo (min k n))
  (Q:=λc e=>∃ys,c=(none,())/\e=setArr st ys/\Frm lo xs ys/\Sg ys lo n) ?step ?fin ⟨xs,rfl,rfl,Frm.refl,λi j v L=>?init⟩) ?post)
 case init =>
  rcases fZ ok with z|z
  ·rw[show i=j by exact z65 v L z];exact cS _
  ·exact hs i j v (by exact z66 L z)
 case post =>
  intro c e b;refine lB (b) λys t f D y=>?_;clear b;subst t;subst f;exact wpS_pure (h ys D y)
 case fin =>
  intro c e b;refine lB (b) λys t f D y=>?_;clear b;subst t;subst f;rw[iJ (e9 _ _)] at y;exact⟨ys,rfl,rfl,D,y⟩
 case step =>
  intro k c e Y o b;refine lB (b) λys t f D y=>?_;clear b;subst t;subst f;have P:=D.size;rw[bF (aX o)] at y;refine wpS_bind (wpS_mono (wpS_forRange (I:=λx c e=>e=setArr st ys/\∃l r,c=(none,l,r)/\l<=r/\r<=k/\r+x<=k+l/\(∀i,i<l->K ys (lo+i)<=K ys (lo+k))/\(∀i,r<=i->i<k->K ys (lo+k)<K ys (lo+i)))
   (Q:=λc e=>e=setArr st ys/\∃l r,c=(none,l,r)/\l<=k/\(∀i,i<l->K ys (lo+i)<=K ys (lo+k))/\(∀i,l<=i->i<k->K ys (lo+k)<K ys (lo+i))) ?istep ?ifin ⟨rfl,0,k,rfl,cX _,az _,az _,λi hi=>absurd hi (k8 _),λi W X=>absurd X (kJ W)⟩) ?ipost)
  case ifin =>
   intro c e b;refine c7 (b) λp m=>?_;clear b;subst p;refine pE (m) λl r f B C J F G=>?_;clear m;subst f;have:l=r:=cI B (v4 J);subst this;exact⟨rfl,l,l,rfl,C,F,G⟩
  case istep =>
   intro x c e _ a6 b;refine c7 (b) λp m=>?_;clear b;subst p;refine pE (m) λl r f B C J F G=>?_;clear m;subst f;dsimp only
   by_cases u:l ≥ r
   ·rw[if_pos u];have:l=r:=cI B u;subst this;exact wpS_pure ⟨rfl,l,l,rfl,C,F,G⟩
   ·rw[if_neg u];refine c7 (Dh (gJ u)) λT O=>?_;refine wpS_bind (ltX Z (D.int hx) (by exact z44 M o P) (by exact z67 M o P B C) (λR=>?_) λR=>?_)
    ·exact wpS_pure ⟨rfl,l,(l+r)/2,rfl,T,aa (aX O) C,vY J O,F,λi H S=>bL R (y _ _ H S)⟩
    ·exact wpS_pure ⟨rfl,(l+r)/2+1,r,rfl,O,C,vX J T,λi H=>ai (y i ((l+r)/2) (cq H) (ah O C)) (ie.mp R),G⟩
  case ipost =>
   intro c e b;refine c7 (b) λp m=>?_;clear b;subst p;refine m9 (m) λl r f B F G=>?_;clear m;subst f;have U:lo+k-(lo+l)=k-l:=jo lo k l;have V:Frm lo ys (bubble ys (lo+k) (lo+k-(lo+l))):=Frm.bubble (by exact z44 M o P) (by exact z68);refine wpS_bind (wpS_modify (wpS_pure ⟨bubble ys (lo+k) (lo+k-(lo+l)),rfl,rfl,D.trans V,?_⟩));rw[bF o,U];have N:=λq=>K_bubble (xs:=ys) (src:=lo+k) (d:=k-l) (by exact z44 M o P) (aa (dg _ _) (aE _ _)) q;rw[show lo+k-(k-l)=lo+l by rw[fD (dg _ _),Nat.sub_sub_self B]] at N;refine λi j v L=>zR (a:=λi=>K ys (lo+i)) (g:=λi=>K (bubble ys (lo+k) (k-l)) (lo+i)) y F G B (λi hi=>?_) ((N _).trans (if_pos rfl)) (λi H S=>?_) v L
   ·exact(N _).trans ((if_neg (bM (bZ hi lo))).trans (if_neg λz=>Nat.lt_asymm z.1 (bZ hi lo)))
   ·exact(N _).trans ((if_neg (iP (bZ (eR H) lo))).trans (if_pos ⟨bZ (eR H) lo,aI S lo⟩))
end
end Mine
namespace Mine
open PySem PyProof.Rows
noncomputable def offs:Nat->List (List Keyed)->List (Nat×Nat)
 | _,[]=>[]
 | o,l::r=>(o,l.length)::offs (o+l.length) r
theorem sN:∀(S T:List (List Keyed)) (o:Nat),offs o (S++T)=offs o S++offs (o+S.flatten.length) T
 | [],T,o=>rfl
 | l::S,T,o=>by show(o,l.length)::offs (o+l.length) (S++T)=(o,l.length)::(offs (o+l.length) S++_);rw[sN S T];simp[bQ]
theorem sO:∀(S:List (List Keyed)) (o:Nat),(offs o S).length=S.length
 | [],_=>rfl
 | l::S,o=>by simp[offs,sO S]
theorem wo {α β:Type}(f:α->β):∀(l:List α) (i:Nat),(l.eraseIdx i).map f=(l.map f).eraseIdx i
 | [],_=>rfl
 | _::_,0=>rfl
 | a::l,i+1=>by simp[List.eraseIdx,wo f l i]
noncomputable def fst2 (e:Nat×Nat×Nat):Nat×Nat:=(e.1,e.2.1)
structure RunsI (t:List Keyed) (st:SortSt) (segs:List (List Keyed)) (rest:List Keyed):Prop where
 kind:kindOf st=oneType'
 fail:failedOf st=none
 arr:(arrOf st).toList=segs.flatten++rest
 perm:(arrOf st).toList.Perm t
 pend:(pendingOf st).toList.map fst2=offs 0 segs
 asc:∀l∈segs,Asc kn l/\l≠[]
noncomputable def qH (a:Array Keyed) (o:Nat) (l:List (Keyed×Nat)):Array Keyed:=l.foldl (λa x=>a.setIfInBounds (o+x.2) x.1) a
theorem yC:∀(l:List Keyed) (a:Array Keyed) (o n:Nat),o+n+l.length<=a.size->(qH a o (l.zipIdx n)).toList=a.toList.take (o+n)++l++a.toList.drop (o+n+l.length)
 | [],a,o,n,h=>by simp[qH]
 | p::l,a,o,n,h=>by
  simp only[b_] at h;have ih:=yC l (a.setIfInBounds (o+n) p) o (n+1) (by rw[Array.size_setIfInBounds];exact z69 h);show(qH (a.setIfInBounds (o+n) p) o (l.zipIdx (n+1))).toList=_;rw[ih,la];have b:o+n<a.toList.length:=by simp;exact mA h
  rw[show o+(n+1)=o+n+1 from rfl,cM,fg b,List.take_set_of_le (az _),List.drop_set_of_lt (by exact z70)];simp only[b_,Option.toList_some,bg,ky,List.nil_append];rw[show o+n+1+l.length=o+n+(l.length+1) by rw[bQ,dD 1]]
section
variable {prog:Program}{w:World}{A:Around}{E:Value->Shared->Prop}{s:Shared}{st:SortSt}
theorem DY {a:Type}{M:Model}{x st:a}{Q:PUnit->a->Prop}(h:Q ⟨⟩ x):wpS M A E s (set x:StateT a Sem PUnit) Q st:=by unfold wpS;rw[StateT.run_set];exact aJ ⟨rfl,h⟩
theorem zx {t:List Keyed}{c D:List (List Keyed)}{u v d:List Keyed}{Q:Bool->SortSt->Prop}(ht:∀p∈t,IntP p) (hr:RunsI t st (c++u::v::D) d)
  (h:∀B m,RunsI t B (c++m::D) d->Q true B):wpS (model prog w) A E s (mergeAt' c.length) Q st:=by
 obtain⟨T,hf,K,j,G,hs⟩:=hr;have hint:∀p∈(arrOf st).toList,IntP p:=λp h=>ht p (j.mem_iff.mp h);refine c7 (hs u (by simp)) λV P=>?_;refine c7 (hs v (by simp)) λsv a0=>?_;have ho:c.length<(pendingOf st).toList.length/\c.length+1<(pendingOf st).toList.length:=by
  have:((pendingOf st).toList.map fst2).length=(offs 0 (c++u::v::D)).length:=by rw[G]
  rw[ya,sO] at this;simp only[aC,b_] at this;exact z71 this
 have e0:offs 0 (c++u::v::D)=offs 0 c++(c.flatten.length,u.length)::(c.flatten.length+u.length,v.length)::offs (c.flatten.length+u.length+v.length) D:=by rw[sN];simp[offs]
 have M:(offs 0 c).length=c.length:=sO _ _;have p1:∃pw,(pendingOf st)[c.length]?=some (c.flatten.length,u.length,pw):=by
  have X:((pendingOf st).toList.map fst2)[c.length]?=some (c.flatten.length,u.length):=by rw[G,e0,cW (by exact bf M),M,aO];rfl
  rw[aq] at X;refine aK (yf X) λO h2 h3=>?_;obtain⟨x,y,z⟩:=O;cases h3;exact⟨z,by rw[<-cD];exact h2⟩
 have p2:∃pw,(pendingOf st)[c.length+1]?=some (c.flatten.length+u.length,v.length,pw):=by
  have X:((pendingOf st).toList.map fst2)[c.length+1]?=some (c.flatten.length+u.length,v.length):=by rw[G,e0,cW (by exact kg (congrFun (congrArg HAdd.hAdd M) 1)),M,show c.length+1-c.length=1 from dm ..];rfl
  rw[aq] at X;refine aK (yf X) λO h2 h3=>?_;obtain⟨x,y,z⟩:=O;cases h3;exact⟨z,by rw[<-cD];exact h2⟩
 refine cG (p1) λpa p1=>?_;refine cG (p2) λpb p2=>?_;generalize H:c.flatten.length=n at *;have fl:(c++u::v::D).flatten++d=c.flatten++(u++(v++(D.flatten++d))):=by simp
 rw[fl] at K;have du:(arrOf st).toList.drop n=u++(v++(D.flatten++d)):=by rw[K,<-H,lw]
 have dv:(arrOf st).toList.drop (n+u.length)=v++(D.flatten++d):=by rw[<-eC,du,lw]
 have tu:((arrOf st).toList.drop n).take u.length=u:=by rw[du,i9]
 have tv:((arrOf st).toList.drop (n+u.length)).take v.length=v:=by rw[dv,i9]
 have iu:∀p∈u,IntP p:=λp j=>hint p (by rw[K];simp[j]);have iv:∀p∈v,IntP p:=λp j=>hint p (by rw[K];simp[j]);have ul:0<u.length:=eU.mpr P;have vl:0<v.length:=eU.mpr a0;have sz:(arrOf st).size=n+(u.length+(v.length+(D.flatten++d).length)):=by rw[<-a_,K,aC,aC,aC,H]
 -- the new stack
 have pq:∀m:List Keyed,m.length=u.length+v.length->((((pendingOf st).setIfInBounds c.length (n,u.length+v.length,pa)).eraseIdxIfInBounds (c.length+1)).toList.map fst2)=offs 0 (c++m::D):=by intro m hm;rw[Array.toList_eraseIdxIfInBounds,la,wo,List.map_set,G,e0];rw[cR _ _ (by exact bf M),M,aO,List.set_cons_zero,List.eraseIdx_append_of_length_le (by exact kg (congrFun (congrArg HAdd.hAdd M) 1)),M,show c.length+1-c.length=1 from dm ..];rw[sN];simp[offs,fst2,hm,H,bQ]
 have done:∀(B:SortSt) (m:List Keyed),kindOf B=oneType'->failedOf B=none->(arrOf B).toList=c.flatten++(m++(D.flatten++d))->m.Perm (u++v)->Asc kn m->pendingOf B=((pendingOf st).setIfInBounds c.length (n,u.length+v.length,pa)).eraseIdxIfInBounds (c.length+1)->RunsI t B (c++m::D) d:=by
  intro B m k1 k2 k3 k4 k5 k6;have ml:m.length=u.length+v.length:=by rw[k4.length_eq,aC]
  refine⟨k1,k2,by rw[k3];simp,?_,by rw[k6];exact pq m ml,λl hl=>?_⟩
  ·refine lX.trans ?_ j;rw[k3,K];refine fw _ ?_;rw[<-bg u v];exact d9 _ k4
  ·rcases yd hl with z|z
   ·exact hs l (by simp[z])
   ·rcases yg z with rfl|z
    ·exact⟨k5,λe=>by rw[e] at ml;simp at ml;exact z72 vl ml⟩
    ·exact hs l (by simp[z])
 refine wpS_bind (wpS_get ?_);rw[p1,p2];refine wpS_bind (DY ?_);obtain⟨C,F,rfl⟩:∃C F,v=C::F:=by
  cases v with
  | nil=>exact absurd rfl a0
  | cons a b=>exact⟨a,b,rfl⟩
 have av:=ra sv;refine wpS_bind (lm (ow dv) ?_);refine wpS_bind (galR (L:=u) T (iv C (by simp)) tu rfl V iu (by exact z73 ul) λk k1 k2 k3=>?_);dsimp only
 by_cases J:(u.length-k == 0)=true
 ·rw[if_pos J];simp only[beq_iff_eq] at J;have:k=u.length:=by exact z74 k1 J
  subst this;rw[ku] at k2;exact wpS_pure (h _ _ (done _ (u++C::F) T hf (by rw[K];simp) (List.Perm.refl _) (Asc.mk V sv λx hx y hy=>ai (k2 x hx) (av y hy)) rfl))
 rw[if_neg J];simp only[beq_iff_eq] at J;obtain⟨i,f,rfl⟩:∃i f,u=i++[f]:=⟨u.dropLast,u.getLast P,(fp P).symm⟩;have I:(i++[f]).length=i.length+1:=by simp
 have N:k<=i.length:=cq (ah (mT J) (bf I));have a9:f∈(i++[f]).drop k:=by rw[c8 N];simp
 have a8:(arrOf st)[n+k+((i++[f]).length-k)-1]?=some f:=by rw[show n+k+((i++[f]).length-k)-1=n+i.length by rw[bQ,bY k1,I];rfl];refine ow (r:=(C::F)++(D.flatten++d)) ?_;rw[<-eC,du];simp
 refine wpS_bind (lm a8 ?_);refine wpS_bind (galL (L:=C::F) T (iu f (by simp)) tv rfl sv iv (by exact dS vl) λo j1 j2 j3=>?_);dsimp only
 by_cases R:(o == 0)=true
 ·simp only[beq_iff_eq] at R;subst R;have a1:=j3 C (by simp);have a2:=k3 f a9;lia
 rw[if_neg R];simp only[beq_iff_eq] at R
 -- the two parts that are merged
 generalize hx:(arrOf st).extract (n+k) (n+(i++[f]).length)=x;generalize hy:(arrOf st).extract (n+(i++[f]).length) (n+(i++[f]).length+o)=y;have ex:x.toList=(i++[f]).drop k:=by rw[<-hx,pj,<-eC,du,c8 (by exact z75 J)];rw[gM (by simp;exact z76),be (by simp;exact z77)]
 have S:y.toList=(C::F).take o:=by rw[<-hy,pj,dv,show n+(i++[f]).length+o-(n+(i++[f]).length)=o from dm ..,gM j1]
 have xl:x.size=(i++[f]).length-k:=by rw[<-a_,ex,cK]
 have yl:y.size=o:=by rw[<-a_,S,b9];exact bF j1
 have sx:Asc kn x.toList:=by rw[ex];exact eG (iz _ _) V
 have sy:Asc kn y.toList:=by rw[S];exact eG (List.take_sublist _ _) sv
 have ix:∀p∈x.toList,IntP p:=λp j=>iu p (bP (by rw[ex] at j;exact j));have iy:∀p∈y.toList,IntP p:=λp j=>iv p (bq (by rw[S] at j;exact j));have b0:∀p∈y.toList.take 1,∀z∈x.toList,kn p<=kn z:=λp j z Y=>by
  have:p=C:=by rw[S,lr,show min 1 o=1 from bF (eD R)] at j;simpa using j
  rw[this];exact aj (k3 z (by rw[ex] at Y;exact Y))
 have bl:∀b∈y.toList,∀z∈x.toList.drop (x.size-1),kn b<=kn z:=λb hb z Y=>by
  have:z=f:=by rw[ex,xl,eC,show k+((i++[f]).length-k-1)=i.length by rw[Nat.sub_right_comm,I,fj];exact bY N,lw] at Y;simpa using Y
  rw[this];exact aj (j2 b (by rw[S] at hb;exact hb))
 have fin:∀(out:Array Keyed) (g:Nat),Asc kn out.toList->out.toList.Perm (x.toList++y.toList)->RunsI t (SortSt.mk' (kindOf st) (qH (arrOf st) (n+k) out.toList.zipIdx) (((pendingOf st).setIfInBounds c.length (n,(i++[f]).length+(C::F).length,pa)).eraseIdxIfInBounds (c.length+1)) g (failedOf st)) (c++((i++[f]).take k++out.toList++(C::F).drop o)::D) d:=by
  intro out g W U;have ol:out.toList.length=(i++[f]).length-k+o:=by rw[U.length_eq,aC,a_,a_,xl,yl]
  have Z:out.toList.Perm ((i++[f]).drop k++(C::F).take o):=by rw[<-ex,<-S];exact U
  have mem:∀p∈out.toList,p∈(i++[f]).drop k\/p∈(C::F).take o:=λp j=>yd (Z.mem_iff.mp j);have au:Asc kn ((i++[f]).take k++(i++[f]).drop k):=by rw[bU];exact V
  have a7:Asc kn ((C::F).take o++(C::F).drop o):=by rw[bU];exact sv
  refine fT (au.app) λa3 ab a4=>?_;refine fT (a7.app) λac a5 a6=>?_;have aa:∀p∈(i++[f]).drop k,kn p<=kn f:=λp j=>qv V p (bP j);refine done _ _ T hf ?_ ?_ ?_ rfl
  ·show(qH (arrOf st) (n+k) (out.toList.zipIdx 0)).toList=_;rw[yC _ _ _ _ (by rw[ol,sz];exact z78 I N j1),hA,ol];have d1:(arrOf st).toList.drop (n+k+((i++[f]).length-k+o))=(C::F).drop o++(D.flatten++d):=by rw[show n+k+((i++[f]).length-k+o)=n+(i++[f]).length+o by rw[bQ,<-bQ k,bY k1,<-bQ],<-eC,dv,c8 j1]
   have d2:(arrOf st).toList.take (n+k)=c.flatten++(i++[f]).take k:=by rw[K,<-H,List.take_append,be (by exact z9),show c.flatten.length+k-c.flatten.length=k from dm ..,gM k1]
   rw[d1,d2];simp only[bg]
  ·have a1:((i++[f]).take k++out.toList++(C::F).drop o).Perm ((i++[f]).take k++((i++[f]).drop k++(C::F).take o)++(C::F).drop o):=d9 _ (fw _ Z);refine a1.trans (List.Perm.of_eq ?_);rw[<-bg,bU,bg,bU]
  ·refine Asc.mk (Asc.mk a3 W λp j q G=>?_) a5 λp j q G=>?_
   ·rcases mem q G with z|z
    ·exact a4 p j q z
    ·exact ai (k2 p j) (av q (bq z))
   ·have lq:=j3 q G;rcases yd j with z|z
    ·exact ai (qv V p (bq z)) lq
    ·rcases mem p z with y|y
     ·exact ai (aa p y) lq
     ·exact a6 p y q G
 have nx:0<x.size:=by rw[xl];exact eD J
 have ny:0<y.size:=by rw[yl];exact eD R
 by_cases c3:(i++[f]).length-k<=o
 ·rw[if_pos c3];refine wpS_bind (GS T ix iy sx sy nx ny b0 bl λout g ⟨W,U⟩=>?_);refine wpS_bind (wpS_modify (wpS_bind (wpS_get (wpS_pure ?_))));have:=h _ _ (fin out g W U);rw[show(true:Bool)=(failedOf st).isNone by rw[hf];rfl] at this;exact this
 ·rw[if_neg c3];refine wpS_bind (GR T ix iy sx sy nx ny b0 bl λout g ⟨W,U⟩=>?_);refine wpS_bind (wpS_modify (wpS_bind (wpS_get (wpS_pure ?_))));have:=h _ _ (fin out g W U);rw[show(true:Bool)=(failedOf st).isNone by rw[hf];rfl] at this;exact this
end
end Mine
namespace Mine
open PySem PyProof.Rows
section
variable {prog:Program}{w:World}{A:Around}{E:Value->Shared->Prop}{s:Shared}{st:SortSt}
theorem Er {α:Type}{F:Nat->StateT SortSt Sem α}{d:StateT SortSt Sem α}{P:Prop}{g:Decidable P}{Q:α->SortSt->Prop}(C:Nat->SortSt->Prop) (b:∀i a,C i a->wpS (model prog w) A E s (F i) Q a)
  (e:P->(∀i a,C i a->wpS (model prog w) A E s (F i) Q a)->wpS (model prog w) A E s d Q st) (f:¬ P->C i st):wpS (model prog w) A E s (if P then d else F i) Q st:=by
 split
 ·rename_i c;exact e c b
 ·rename_i c;exact b _ _ (f c)
theorem cut2 {α:Type}:∀(l:List α) (i:Nat),i+1<l.length->∃c u v d,l=c++u::v::d/\c.length=i
 | a::b::r,0,_=>⟨[],a,b,r,rfl,rfl⟩
 | a::r,i+1,h=>by refine rD (cut2 r i (by simpa using h)) λc u v d e f=>?_;exact⟨a::c,u,v,d,by rw[e];rfl,by simp[f]⟩
 | [],i,h=>by simp at h
 | [_],0,h=>by simp at h
theorem RunsI.flen {t:List Keyed}{b:List (List Keyed)}{a:List Keyed}(h:RunsI t st b a):b.flatten.length+a.length=t.length:=by rw[<-h.perm.length_eq,h.arr,aC]
theorem RunsI.flenA {a:Array Keyed}{c:List (List Keyed)}{b:List Keyed}(h:RunsI a.toList st c b):c.flatten.length+b.length=a.size:=h.flen.trans a_
theorem RunsI.szA {a:Array Keyed}{c:List (List Keyed)}{b:List Keyed}(h:RunsI a.toList st c b):(arrOf st).size=a.size:=(fF.mpr h.perm).size_eq
theorem Ez {P:Prop}{d:Decidable P}{n:Nat}:@ite _ P d (n-1) n<=n:=by split<;>lia
theorem Am {n:Nat}{Q:Bool->SortSt->Prop}(b:m<=n) (a:∀j,j<=n->wpS (model prog w) A E s (mergeAt' j) Q st):wpS (model prog w) A E s (mergeAt' m) Q st:=a m b
theorem RunsI.plen {t:List Keyed}{a:List (List Keyed)}{b:List Keyed}(h:RunsI t st a b):(pendingOf st).size=a.length:=by have:=congrArg eg h.pend;rw[ya,sO,a_] at this;exact this
theorem RunsI.push {t a:List Keyed}{b:List (List Keyed)}{c:List Keyed}(h:RunsI t st b (a++c)) (f:Asc kn a) (e:a≠[]):RunsI t (setPending st ((pendingOf st).push (b.flatten.length,a.length,0))) (b++[a]) c :=
 ⟨h.kind,h.fail,by show(arrOf st).toList=_;rw[h.arr];simp,h.perm,by
  show((pendingOf st).push _).toList.map fst2=_;rw[gc,aQ,h.pend,sN];simp[offs,fst2],λl d=>by
  rcases yd d with z|z
  ·exact h.asc l z
  ·rw[yb z];exact⟨f,e⟩⟩
theorem zq {α β:Type}(f:α->β) (g:α->α) (b:∀x,f (g x)=f x):∀(l:List α) (i:Nat),(l.modify i g).map f=l.map f
 | [],_=>by simp
 | a::l,0=>by simp[b]
 | a::l,i+1=>by simp[zq f g b l i]
theorem RunsI.power {t:List Keyed}{b:List (List Keyed)}{a:List Keyed}{pw:Nat}(h:RunsI t st b a):RunsI t (setPending st ((pendingOf st).modify i λx=>(x.1,x.2.1,pw))) b a :=
 ⟨h.kind,h.fail,h.arr,h.perm,by
  show((pendingOf st).modify _ _).toList.map fst2=_;rw[Array.toList_modify,zq]
  ·exact h.pend
  ·intro x;rfl,h.asc⟩
theorem RunsI.run {t:List Keyed}{a:List (List Keyed)}{f:List Keyed}(h:RunsI t st a f){lo n:Nat}{b:Array Keyed}(r:lo=a.flatten.length) (m:Frm lo (arrOf st) b) (v:1<=n) (s:lo+n<=b.size) (u:Sg b lo n) :
  ∃d c,d.length=n/\Asc kn d/\RunsI t (setArr st b) a (d++c):=by
 refine⟨(b.toList.drop lo).take n,(b.toList.drop lo).drop n,?_,?_,h.kind,h.fail,?_,?_,h.pend,h.asc⟩
 ·rw[b9,cK,a_];exact z79 s
 ·unfold Asc;rw[eI];intro i j hi o g;have q:=hi;rw[b9,cK,a_] at hi o;have:=u i j (by exact bw g) (by exact z80 o);have e:∀k (l:k<((b.toList.drop lo).take n).length),kn ((b.toList.drop lo).take n)[k]=K b (lo+k):=λk l=>by rw[b9,cK,a_] at l;rw[jZ,j4];unfold K;rw[getElem?_pos b (lo+k) (by exact z81 l)];simp
  rw[e,e];exact this
 ·show b.toList=_;rw[bU];have:b.toList.take lo=a.flatten:=by
   have p:a.flatten=(arrOf st).toList.take lo:=by rw[h.arr,r,i9]
   rw[p];refine List.ext_getElem? λi=>?_;rw[hG,hG];split
   ·rw[cD,cD];exact m.2 i (by assumption)
   ·rfl
  rw[<-this,bU]
 ·show b.toList.Perm t;exact(fF.mp m.1).trans h.perm
theorem wZ {lo n:Nat}(h:lo<=n):lo+min (n-lo) m<=n:=aa (aI (d4 _ _) lo) (bf (tN h))
theorem GW {a₀:Array Keyed}{Q:Unit->SortSt->Prop}(h0:IntA a₀) (hk:kindOf st=oneType') (hf:failedOf st=none) (N:pendingOf st=#[]) (ha:arrOf st=a₀) (h2:2<=a₀.size)
  (h:∀r,(arrOf r).Perm a₀->failedOf r=none->SortedTo (arrOf r) a₀.size->Q () r):wpS (model prog w) A E s sortRuns' Q st:=by
 rw[sortRuns'_eq];refine wpS_bind (wpS_get ?_);rw[ha];dsimp only;generalize minRun' a₀.size a₀.size 0=G;refine wpS_bind (wpS_mono (wpS_forRange (I:=λx c r=>∃f D lo,c=(none,lo)/\RunsI a₀.toList r f D/\lo=f.flatten.length/\(x<=lo\/a₀.size<=lo))
  (Q:=λc r=>∃f lo,c=(none,lo)/\RunsI a₀.toList r f []) ?step ?fin ⟨[],a₀.toList,0,rfl,⟨hk,hf,by rw[ha];rfl,by rw[ha],by rw[N];rfl,λl L=>by cases L⟩,rfl,.inl (az _)⟩) ?post)
 case fin =>
  intro c r d;refine oX (d) λf D lo S F L O=>?_;clear d;subst S;have:=F.flenA;have e:D=[]:=bI.mp (by exact z82 L O this);subst e;exact⟨f,lo,rfl,F⟩
 case step =>
  intro x c r _ O d;refine oX (d) λf D lo S F L ac=>?_;clear d;subst S;have fl:=F.flenA;have R:=F.szA;have hint:IntA (arrOf r):=λp N=>h0 p (F.perm.mem_iff.mp N)
  by_cases H:lo ≥ a₀.size
  ·rw[if_pos H];have e:D=[]:=bI.mp (by exact z83 L fl H);subst e;exact wpS_pure ⟨f,lo,rfl,F⟩
  rw[if_neg H];refine wpS_bind (DX (st:=r) (xs:=arrOf r) F.kind hint (bf ((bY (Nat.le_of_not_le H)).trans R.symm)) (dX (gJ H)) λm ys fr m1 m2 sg=>?_);have a6:=fr.size;apply Er (i:=m) (λn st2=>∃B o,1<=n/\B.length=n/\Asc kn B/\RunsI a₀.toList st2 f (B++o))
  ·intro n st2 d;refine m9 (d) λB o n1 P sa V=>?_;clear d;have a5:B≠[]:=λe=>by rw[e] at P;simp at P;exact z84 n1 P
   refine wpS_bind (wpS_get ?_);cases hb:(pendingOf st2).back? with
   | none =>
    have N:=V.push sa a5;rw[<-L,P] at N;exact wpS_bind (wpS_modify (wpS_pure ⟨_,_,_,rfl,N,by simp[<-L,P],by lia⟩))
   | some e =>
    obtain⟨s1,Y,pz⟩:=e;refine wpS_bind (wpS_mono (wpS_forRange (I:=λ_ c st3=>c=(none,())/\∃b,RunsI a₀.toList st3 b (B++o)) (Q:=λc st3=>c=(none,())/\∃b,RunsI a₀.toList st3 b (B++o)) ?istep (λc st3 h=>h) ⟨rfl,f,V⟩) ?ipost)
    case istep =>
     intro y c st3 _ hy d;refine c7 (d) λC t=>?_;clear d;subst C;refine cG (t) λb g=>?_;clear t;refine wpS_bind (wpS_get ?_);have pl:=g.plen
     by_cases J:(pendingOf st3).size>1
     ·rw[if_pos J,getElem?_pos (pendingOf st3) ((pendingOf st3).size-2) (by exact z85 J)];generalize (pendingOf st3)[(pendingOf st3).size-2]'(by exact z85 J)=e3;obtain⟨q1,q2,a9⟩:=e3;dsimp only;split
      ·exact wpS_pure ⟨rfl,b,g⟩
      ·refine rD (cut2 b ((pendingOf st3).size-2) (by exact z86 pl J)) λS1 u v S2 e hS=>?_;rw[<-hS];rw[e] at g;exact wpS_bind (zx h0 g λst4 m4 W=>wpS_pure ⟨rfl,_,W⟩)
     ·rw[if_neg J];exact wpS_pure ⟨rfl,b,g⟩
    case ipost =>
     intro c st3 d;refine c7 (d) λC t=>?_;clear d;subst C;refine cG (t) λb g=>?_;clear t;have l3:b.flatten.length=lo:=by have a1:=g.flenA;have a2:=V.flenA;exact z87 L a1 a2
     refine wpS_bind (wpS_modify ?_);have N:=(g.power (i:=(pendingOf st3).size-1) (pw:=power' a₀.size (2*s1+Y) (2*s1+Y+Y+n) a₀.size)).push sa a5;rw[l3,P] at N;exact wpS_bind (wpS_modify (wpS_pure ⟨_,_,_,rfl,N,by simp[l3,P],by lia⟩))
  ·intro a4 go;refine wpS_bind (wpS_lift (fQ ⟨rfl,?_⟩));have a3:lo<=a₀.size:=aX (gJ H);have U:m<=min (a₀.size-lo) G:=jQ.mpr ⟨m2,aX a4⟩;refine wpS_bind (DW (st:=r) (xs:=ys) F.kind (fr.int hint) (by rw[a6,R];exact wZ a3) U sg λzs fz sz2=>?_);have ab:=fz.size;rw[if_neg (by decide)];obtain⟨B,o,g1,g2,g3⟩:=F.run L (fr.trans fz) (n:=min (a₀.size-lo) G) (aa m1 U) (by rw[ab,a6,R];exact wZ a3) sz2;exact go _ _ ⟨B,o,aa m1 U,g1,g2,g3⟩
  ·intro a4;refine eX (F.run L fr m1 (by lia) sg) λB o g1 g2 g3=>?_;exact⟨B,o,m1,g1,g2,g3⟩
 case post =>
  intro c r d;refine kB (d) λf lo a7 F=>?_;clear d;subst a7;have P:f.length<=a₀.size:=by
   have h1:=F.flenA;have:∀(l:List (List Keyed)),(∀x∈l,x≠[])->l.length<=l.flatten.length:=λl=>by
    induction l with
    | nil=>intro _;simp
    | cons a l ih =>
     intro hq;rw[List.flatten_cons,aC,b_,dD];exact cZ (eU.mpr (hq a (aR ..))) (ih λx O=>hq x (yi _ O))
   have:=this f λx O=>(F.asc x O).2;simp only[gV] at h1;exact le_of_le_of_eq this h1
  refine wpS_bind (wpS_mono (wpS_forRange (I:=λx c st3=>c=(none,())/\∃b,RunsI a₀.toList st3 b []/\(b.length+x<=a₀.size\/b.length<=1)) (Q:=λc st3=>c=(none,())/\∃b,RunsI a₀.toList st3 b []/\b.length<=1) ?fstep ?ffin ⟨rfl,f,F,.inl (by exact z88 P)⟩) ?fpost)
  case ffin =>
   intro c st3 d;refine c7 (d) λC t=>?_;clear d;subst C;refine aK (t) λb g O=>?_;clear t;exact⟨rfl,b,g,by exact z89 O⟩
  case fstep =>
   intro x c st3 _ O d;refine c7 (d) λC t=>?_;clear d;subst C;refine aK (t) λb g X=>?_;clear t;refine wpS_bind (wpS_get ?_);have pl:=g.plen
   by_cases M:(pendingOf st3).size<=1
   ·rw[if_pos M];exact wpS_pure ⟨rfl,b,g,by exact le_of_eq_of_le (id (Eq.symm pl)) M⟩
   rw[if_neg M];refine wpS_bind (Am Ez λj Z=>?_);have jl:j+1<b.length:=by exact z90 pl M Z
   refine rD (cut2 b j jl) λS1 u v S2 e hS=>?_;rw[<-hS];rw[e] at g X;refine zx h0 g λst4 m4 W=>wpS_pure ⟨rfl,_,W,.inl ?_⟩;simp only[aC,b_] at X ⊢;exact z91 X
  case fpost =>
   intro c st3 d;refine c7 (d) λC t=>?_;clear d;subst C;refine aK (t) λb g a8=>?_;clear t;have a0:Asc kn (arrOf st3).toList:=by
    rw[g.arr,gX]
    match b,a8,g.asc with
    | [],_,_=>exact j7
    | [l],_,q=>rw[List.flatten_singleton];exact(q l (by simp)).1
   refine wpS_pure (h st3 (fF.mpr g.perm) g.fail λi j T Z=>?_);have R:=g.szA;have e:∀k,(hk:k<a₀.size)->K (arrOf st3) k=kn ((arrOf st3).toList[k]'(a_▸R▸hk)):=λk hk=>by unfold K;rw[getElem?_pos (arrOf st3) k (by exact eE hk (id (Eq.symm R)))];simp
   rw[e i (by exact aw T Z),e j Z];rcases cB T with z|rfl
   ·exact eI.mp a0 i j (a_▸R▸aw T Z) (a_▸R▸Z) z
   ·exact cS _
end
end Mine
namespace Mine
open PySem PyProof.Rows
section
variable {prog:Program}{w:World}{A:Around}{E:Value->Shared->Prop}{s:Shared}
theorem yG {a:Addr}{D:List Int}{n:Nat}{P:Fin->Shared->Prop}(l:s.heap.get? a=some (seqObj "list" vs.toArray n)) (q:IntsAre vs D) (y:vs.length<=100000)
  (h:∀(out:Array Value) (i:List Int),IntsAre out.toList i->i.Perm D->i.Pairwise (·<=·)->P (.done (.ret .none)) { s with heap:=sortedHeap s.heap a vs out }) :
  aP (model prog w) A (Builtin.«list.sort» ⟨[.ref a],[]⟩) P E s:=by
 by_cases j:vs.length<64
 ·exact list_sort_tree l q j h
 obtain⟨d,f,b,rfl⟩:∃d f b,vs=d::f::b:=by
  rcases vs with _|⟨v,_|⟨u,r⟩⟩
  ·simp at j
  ·simp at j
  ·exact⟨v,u,r,rfl⟩
 have C:a<s.heap.objs.size:=ci l;have B:ag=16777216:=rfl;have k:¬ (d::f::b).toArray.size<2:=by simp
 have g:IntA (pairsOf (d::f::b)):=λp t=>q.intKeys p t;rw[list_sort_plain];refine ad (listItems_at l rfl (ad (listUpdate_at l rfl ?_ (by simp only[aH];exact z92 y B) (cX _))));obtain⟨x,m⟩:∃x,(s.heap.update a (fY λ_=>#[])).get? a=some (seqObj "list" #[] x):=⟨_,get?_update_seq l (λ_=>#[])⟩;refine ad (seqEpoch_at m rfl (ad (wpAny_newTuple (ad (ng (g7 ?_))) (by simp only[aH] ;exact z92 y B))));have o:(((s.heap.update a (fY λ_=>#[])).push (seqObj "tuple" (d::f::b).toArray 0)).push (seqObj "list" #[] 0)).get? a=some (seqObj "list" #[] x):=by rw[Heap.get?_push_ne _ _ _ (by rw[size_push',kz];exact bM (gu C)),Heap.get?_push_ne _ _ _ (by rw[kz];exact bM C)];exact m
 show aP (model prog w) A _ P E { s with heap:=((s.heap.update a (fY λ_=>#[])).push (seqObj "tuple" (d::f::b).toArray 0)).push (seqObj "list" #[] 0) };rw[if_neg k,if_neg k,keyKind_ints q];refine ad (aJ ?_);refine ad (aD (GW (a₀:=pairsOf (d::f::b)) (st:=SortSt.mk' oneType' ((d::f::b).toArray.zip (d::f::b).toArray) #[] 7 none)
  (Q:=λ_ c=>(arrOf c).Perm (pairsOf (d::f::b))/\failedOf c=none/\SortedTo (arrOf c) (pairsOf (d::f::b)).size) g rfl rfl rfl rfl (by rw[pairsOf_size];simp) λc F G H=>⟨F,G,H⟩) ?_ λ_ _ e=>e)
 rintro⟨⟨⟩,c⟩ s' ⟨rfl,t,I,J⟩;refine eT (sorted_out q t J) λi K o2 L=>?_;have z:((arrOf c).map (·.2)).size=(d::f::b).length:=(Array.size_map ..).trans (t.size_eq.trans (pairsOf_size _));dsimp only;refine ad (seqEpoch_at o rfl (ad (listUpdate_at o rfl ?_ (cX _) (by rw[z];exact z93 y B))));rw[I];simp only[bne_self_eq_false,jN,if_false];exact aJ (h _ i K o2 L)
theorem Gn {l:Addr}{d:List Int}{Q:Value->Shared->Prop}(n:s.heap.IsList l vs.toArray) (k:IntsAre vs d) (c:vs.length<=100000)
  (h:∀(out:Array Value) (a:List Int),IntsAre out.toList a->a.Perm d->a.Pairwise (·<=·)->Q (.ref (s.heap.objs.size+1)) { s with heap:=sortedAll s.heap vs out }) :
  aP (model prog w) A (call (.builtin "sorted") [.ref l]) Q E s:=by
 have f:ag=16777216:=rfl;refine lz kind_sorted plain_sorted entry_sorted (args_sorted1 _) ?_;unfold Builtin.«sorted»;refine ad (m:=checkCount "sorted" 1 1 _) (aJ (ad (collect_list n (ad (ng ?_ (by exact z92 c f))) (by exact z92 c f))));have e:((s.heap.push (seqObj "list" #[] 0)).update s.heap.objs.size (fY (·++vs.toArray))).objs.size=s.heap.objs.size+1:=by rw[kz,size_push']
 have b:(((s.heap.push (seqObj "list" #[] 0)).update s.heap.objs.size (fY (·++vs.toArray))).push (seqObj "list" vs.toArray 0)).get? (s.heap.objs.size+1)=some (seqObj "list" vs.toArray 0):=by rw[<-e];exact ba _ rfl
 show aP _ _ _ _ _ { s with heap:=((s.heap.push (seqObj "list" #[] 0)).update s.heap.objs.size (fY (·++vs.toArray))).push (seqObj "list" vs.toArray 0) };rw[e];exact ad (g7 (eH slot_list_sort ⟨_,b,rfl⟩ entry_list_sort (yG b k c λout a g i j=>⟨_,rfl,aJ ⟨_,rfl,h out a g i j⟩⟩) (args_list_sort _)))
end
end Mine
namespace Mine
open PySem
inductive AV where
 | none
 | bool (b:Bool)
 | int (i:Int)
 | str (x:Str)
 | tup (l:List AV)
 | ref (i:Nat)
 | fro (l:List AV)
 | obj (k:Nat)
 deriving Inhabited
inductive AObj where
 | list (l:List AV)
 | dict (l:List (Int×AV))
 | dicE (l:List (Int×AV)) (e:Nat)
 deriving Inhabited
abbrev Hp:=List AObj
abbrev Loc:=List (Option AV)
theorem gl {p:Prop}(h:∀G:Prop,(p->G)->G):p:=h p id
def PTup (h:Heap) (a:Addr) (vs:Array Value):Prop:=∃n dd sl,h.get? a=some { cls:=.type "tuple",dict:=dd,data:=.seq vs n,slots:=sl }
theorem PTup.isTup {a:Addr}{vs:Array Value}(x:PTup h a vs):PyProof.Rows.IsTup h a vs:=let ⟨n,_,_,e⟩:=x;⟨_,e,rfl,n,rfl⟩
theorem PTup.of {h:Heap}{a:Addr}{vs:Array Value}(x:PyProof.Rows.IsTup h a vs):PTup h a vs:=by refine eT (x) λd e f b=>?_;clear x;obtain⟨c,dd,j,i⟩:=d;refine cG (b) λn g=>?_;clear b;simp only at f g;subst f;subst g;exact⟨n,dd,i,e⟩
theorem PTup.new (h:Heap) (vs:Array Value):PTup (h.push { cls:=.type "tuple",data:=.seq vs }) h.objs.size vs:=⟨0,_,_,ba _ rfl⟩
noncomputable def atName (v:Value):Str->Option Value:=λy=>if y = "kept" then some v else da
def qA (B:Heap) (a:Addr):Prop:=∀(T:String),T∈["int", "bool", "str", "tuple", "list"]->∀(prog:Program) (w:World) (A:Around) (E:Value->Shared->Prop) (s:Shared) (Q:Value->Shared->Prop),B.StaysIn s.heap ->
 Q (.bool false) { s with toks:=s.toks+1 }->aP (model prog w) A (call (.builtin "isinstance") [.ref a,.type T]) Q E s
def OAt (B:Heap) (a ka:Addr):Prop:=(∃C m,B.Ns dA m/\m "Shelf" = some (.ref C)/\B.Inst a C (atName (.ref ka)))/\qA B a
mutual
def VR (B h:Heap) (ι:List Addr):AV->Value->Prop
 | .none,v=>v=.none
 | .bool b,v=>v=.bool b
 | .int i,v=>∃t,v=.int i t
 | .str x,v=>ff x=true/\∃t,v=.str x t
 | .tup l,v=>∃a vs,v=.ref a/\PTup h a (aW vs)/\VRs B h ι l vs
 | .ref i,v=>∃a,v=.ref a/\ι[i]?=some a
 | .fro l,v=>∃a vs,v=.ref a/\B.IsList a (aW vs)/\VRs B h ι l vs
 | .obj k,v=>∃a ka,v=.ref a/\ι[k]?=some ka/\OAt B a ka
def VRs (B h:Heap) (ι:List Addr):List AV->List Value->Prop
 | [],vs=>vs=[]
 | d::ds,vs=>∃v r,vs=v::r/\VR B h ι d v/\VRs B h ι ds r
end
def ERs (B h:Heap) (ι:List Addr):List (Int×AV)->List DictEntry->Prop
 | [],es=>es=[]
 | (k,d)::r,es=>∃t v es',es=⟨hashInt k,.int k t,v⟩::es'/\VR B h ι d v/\ERs B h ι r es'
def OR (B h:Heap) (ι:List Addr) (a:Addr):AObj->Prop
 | .list l=>∃vs,h.PlainList a (aW vs)/\VRs B h ι l vs
 | .dict l=>(a == sysModules)=false/\(l.map (·.1)).Nodup/\∃es n,h.get? a=some { cls:=.type "dict",data:=.dict (aW es) n }/\ERs B h ι l es
 | .dicE l n=>(a == sysModules)=false/\(l.map (·.1)).Nodup/\∃es,h.get? a=some { cls:=.type "dict",data:=.dict (aW es) n }/\ERs B h ι l es
def Kept (S:List Addr) (h h':Heap):Prop :=
 ∀a o,h.get? a=some o->a∉S->∃sl,h'.get? a=some { o with slots:=sl }/\((∀es n,o.data≠.dict es n)->sl=o.slots)
structure HR (B:Heap) (ι:List Addr) (H:Hp) (h:Heap):Prop where
 base:B.StaysIn h
 fresh:∀a∈ι,B.get? a=da
 nodup:ι.Nodup
 len:ι.length=H.length
 objs:∀(i:Nat) (o:AObj),H[i]?=some o->∃a,ι[i]?=some a/\OR B h ι a o
theorem Kept.refl (S:List Addr) (h:Heap):Kept S h h:=λ_ o e _=>⟨o.slots,e,λ_=>rfl⟩
theorem Kept.of_keeps (k:∀b o,b∉S->h.get? b=some o->h'.get? b=some o):Kept S h h' :=
 λa o e c=>⟨o.slots,k a o c e,λ_=>rfl⟩
theorem Kept.mono {T:List Addr}(x:Kept S h h') (s:∀a∈S,a∈T):Kept T h h':=λa o e b=>x a o e λq=>b (s a q)
theorem Kept.exact (x:Kept S h h'){a:Addr}{o:Obj}(e:h.get? a=some o) (d:a∉S) (c:∀es n,o.data≠.dict es n):h'.get? a=some o:=by refine aK (x a o e d) λg b f=>?_;rw[b,f c]
theorem Kept.data (x:Kept S h h'){a:Addr}{o:Obj}(e:h.get? a=some o) (c:a∉S):∃o',h'.get? a=some o'/\o'.data=o.data/\o'.cls=o.cls:=by refine aK (x a o e c) λd b _=>?_;exact⟨_,b,rfl,rfl⟩
def kD (S:List Addr) (h:Heap):Prop:=∀a∈S,∀vs,¬ PyProof.Rows.IsTup h a vs
theorem u3 {S:List Addr}{h h':Heap}(x:Kept S h h') (c:kD S h){a:Addr}{vs:Array Value}(t:PTup h a vs):PTup h' a vs:=by have b:a∉S:=λq=>c a q vs t.isTup;refine mJ (t) λn dd d e=>?_;clear t;exact⟨n,dd,d,x.exact e b λ_ _ q=>by cases q⟩
theorem ou {ι ι':List Addr}(p:ι<+:ι'){i:Nat}{a:Addr}(e:ι[i]?=some a):ι'[i]?=some a:=by
 refine cG (p) λt b=>?_;clear p;subst b;rw[bJ]
 ·exact e
 ·exact(ym e).1
mutual
theorem VR.mono {B h h':Heap}{ι ι' S:List Addr}(x:Kept S h h') (b:kD S h) (p:ι<+:ι'):∀(d:AV) (v:Value),VR B h ι d v->VR B h' ι' d v
 | .none,_,q=>q
 | .bool _,_,q=>q
 | .int _,_,q=>q
 | .str _,_,q=>q
 | .tup l,v,q=>by refine eX (q) λa vs e t r=>?_;clear q;exact⟨a,vs,e,u3 x b t,VRs.mono x b p l vs r⟩
 | .ref i,v,q=>by refine aK (q) λa e g=>?_;clear q;exact⟨a,e,ou p g⟩
 | .fro l,v,q=>by refine eX (q) λa vs e t r=>?_;clear q;exact⟨a,vs,e,t,VRs.mono x b p l vs r⟩
 | .obj k,v,q=>by exact eX q λa c e g o=>⟨a,c,e,ou p g,o⟩
theorem VRs.mono {B h h':Heap}{ι ι' S:List Addr}(x:Kept S h h') (c:kD S h) (p:ι<+:ι'):∀(l:List AV) (vs:List Value),VRs B h ι l vs->VRs B h' ι' l vs
 | [],_,q=>q
 | d::ds,vs,q=>by refine eX (q) λv r e a b=>?_;clear q;exact⟨v,r,e,VR.mono x c p d v a,VRs.mono x c p ds r b⟩
end
theorem ERs.mono {B h h':Heap}{ι ι' S:List Addr}(x:Kept S h h') (c:kD S h) (p:ι<+:ι'):∀(l:List (Int×AV)) (es:List DictEntry),ERs B h ι l es->ERs B h' ι' l es
 | [],_,q=>q
 | (k,d)::ds,vs,q=>by refine kM (q) λt v r e a b=>?_;clear q;exact⟨t,v,r,e,VR.mono x c p d v a,ERs.mono x c p ds r b⟩
theorem OR.mono {B h h':Heap}{ι ι' S:List Addr}(x:Kept S h h') (f:kD S h) (p:ι<+:ι'){a:Addr}{o:AObj}(ex:∀o,h.get? a=some o->h'.get? a=some o) (q:OR B h ι a o):OR B h' ι' a o:=by
 cases o with
 | list l =>
  refine aK (q) λvs c r=>?_;clear q;refine cG (c) λn e=>?_;clear c;exact⟨vs,⟨n,ex _ e⟩,VRs.mono x f p l vs r⟩
 | dict l =>
  refine fT (q) λd nd b=>?_;clear q;refine kB (b) λes n e r=>?_;clear b;exact⟨d,nd,es,n,ex _ e,ERs.mono x f p l es r⟩
 | dicE l n =>
  refine fT (q) λd nd b=>aK b λes e r=>?_;exact⟨d,nd,es,ex _ e,ERs.mono x f p l es r⟩
theorem OR.cls {a:Addr}{o:AObj}(q:OR B h ι a o):∃x,h.get? a=some x/\x.cls≠.type "tuple" := by
 cases o with
 | list l=>exact q.elim λ_ z=>z.1.elim λ_ e=>⟨_,e,by simp⟩
 | dict l=>exact q.2.2.elim λ_ z=>z.elim λ_ e=>⟨_,e.1,by simp⟩
 | dicE l n=>exact q.2.2.elim λ_ e=>⟨_,e.1,by simp⟩
theorem HR.noTup {B:Heap}{ι:List Addr}{H:Hp}{h:Heap}(q:HR B ι H h):kD ι h:=by intro a k vs t;refine cG (cQ k) λi d=>?_;refine cG (d) λhi f=>?_;clear d;subst f;have m:i<H.length:=q.len▸hi;refine aK (q.objs i H[i] (ak m)) λb j o=>aK o.cls λx e l=>aK t λo' g c=>?_;have:=yj ((ak hi).symm.trans j);rw[<-this] at e;exact l (yj (e.symm.trans g)▸c.1)
structure Post (B:Heap) (ι:List Addr) (s:Shared) (ι':List Addr) (H':Hp) (s':Shared):Prop where
 pre:ι<+:ι'
 hr:HR B ι' H' s'.heap
 kept:Kept ι s.heap s'.heap
 new:∀a∈ι',a∈ι\/s.heap.get? a=da
 same:s'.gens=s.gens/\s'.os=s.os
theorem Post.refl {H:Hp}(q:HR B ι H s.heap) (t:Nat):Post B ι s ι H { s with toks:=t } :=
 ⟨af _,q,Kept.refl _ _,λ_ h=>.inl h,rfl,rfl⟩
theorem Post.id {H:Hp}(q:HR B ι H s.heap):Post B ι s ι H s:=Post.refl q s.toks
theorem Post.trans {h:Shared}{i g:Hp}(x:Post B ι s ι1 i s1) (y:Post B ι1 s1 ι2 g h):Post B ι s ι2 g h:=by
 have out:∀a o,s.heap.get? a=some o->a∉ι->a∉ι1:=λa o e b q=>(x.new a q).elim b λz=>by rw[e] at z;cases z
 refine⟨x.pre.trans y.pre,y.hr,λa o e b=>?_,λa k=>?_,?_⟩
 ·refine aK (x.kept a o e b) λn d l=>?_;refine aK (y.kept a _ d (out a o e b)) λf j m=>?_;exact⟨f,j,λc=>(m c).trans (l c)⟩
 ·by_cases hi:a∈ι
  ·exact .inl hi
  ·right;rcases y.new a k with q|q
   ·exact(x.new a q).resolve_left hi
   ·cases e:s.heap.get? a with
    | none=>rfl
    | some o =>
     refine aK (x.kept a o e hi) λn d _=>?_;rw[d] at q;cases q
 ·exact⟨y.same.1.trans x.same.1,y.same.2.trans x.same.2⟩
theorem Post.vr {H H':Hp}(x:Post B ι s ι' H' s') (q:HR B ι H s.heap){d:AV}{v:Value}(r:VR B s.heap ι d v):VR B s'.heap ι' d v :=
 VR.mono x.kept q.noTup x.pre d v r
theorem Post.vrs {H H':Hp}(x:Post B ι s ι' H' s') (q:HR B ι H s.heap){d:List AV}{v:List Value}(r:VRs B s.heap ι d v):VRs B s'.heap ι' d v :=
 VRs.mono x.kept q.noTup x.pre d v r
def qu (A:Around) (B h:Heap) (ι:List Addr):Prop :=
 ∃fl,A.frames=some fl/\∀env∈fl,env.scope.kind≠.module/\∃L o,env.frame=some L/\B.get? L=da/\h.get? L=some o/\(∃es n,o.data=.dict es n)/\L∉ι
structure Room (A:Around) (d:Nat):Prop where
 depth:A.depth+d<de
 units:A.units+8*d+200<cLine
 handled:A.handled=da
structure W (B:Heap) (A:Around) (d:Nat) (ι:List Addr) (H:Hp) (s:Shared):Prop where
 room:Room A d
 fr:qu A B s.heap ι
 hr:HR B ι H s.heap
theorem qu.step {A:Around}{B:Heap}{ι ι':List Addr}{s s':Shared}{H':Hp}(x:qu A B s.heap ι) (p:Post B ι s ι' H' s'):qu A B s'.heap ι':=by refine aK (x) λg e q=>?_;clear x;refine⟨g,e,λenv l=>?_⟩;refine c7 (q env l) λk a=>?_;refine mI (a) λL o h i b j c=>?_;clear a;refine eT (p.kept.data b c) λo' f d _=>?_;exact⟨k,L,o',h,i,f,d▸j,λz=>(p.new L z).elim c λw=>by rw[b] at w;cases w⟩
theorem W.step {d:Nat}{H H':Hp}(x:W B A d ι H s) (p:Post B ι s ι' H' s'):W B A d ι' H' s' :=
 ⟨x.room,x.fr.step p,p.hr⟩
def Has (env:Env) (h:Heap) (x:Str) (ov:Option Value):Prop :=
 (env.kindOf x=some .local/\∃m,h.Ns env.locals m/\m x=ov) \/
 ((env.kindOf x=some .cell\/env.kindOf x=some .free)/\∃c,env.cells.lookup x=some c/\h.IsCell c ov)
structure Ctx where
 vars:List (Option Str)
 names:List (Str×NameKind)
 ro:Nat:=0
structure EnvR (B:Heap) (C:Ctx) (env:Env) (ι:List Addr) (h:Heap) (loc:Loc):Prop where
 kind:env.scope.kind=.function
 names:env.scope.names=C.names
 glob:env.globals=dA
 blt:env.builtins=builtinsNs
 ns:∃m,h.Ns env.locals m
 offL:env.locals∉ι
 newL:B.get? env.locals=da
 offC:∀x c,some x∈C.vars->env.cells.lookup x=some c->c∉ι/\c≠env.locals/\B.get? c=da
 isC:∀x c,some x∈C.vars->env.cells.lookup x=some c->∃ov,h.IsCell c ov
 apart:∀x y c,some x∈C.vars->some y∈C.vars->env.cells.lookup x=some c->env.cells.lookup y=some c->x=y
 len:loc.length=C.vars.length
 vars:∀(i:Nat) (x:Str),C.vars[i]?=some (some x)->∃ov,Has env h x ov/\∀d,loc[i]?=some (some d)->∃v,ov=some v/\VR B h ι d v
theorem Ns.of_data {h h':Heap}{a:Addr}{m:Str->Option Value}(x:h.Ns a m) (k:∀o,h.get? a=some o->∃o',h'.get? a=some o'/\o'.data=o.data):h'.Ns a m:=by refine kM (x) λo es ep e d r=>?_;clear x;refine aK (k o e) λo' c b=>?_;exact⟨o',es,ep,c,b.trans d,r⟩
theorem Cell.of_data {h h':Heap}{a:Addr}{v:Option Value}(x:h.IsCell a v) (k:∀o,h.get? a=some o->∃o',h'.get? a=some o'/\o'.data=o.data):h'.IsCell a v:=by refine aK (x) λo e d=>?_;clear x;refine aK (k o e) λo' c b=>?_;exact⟨o',c,b.trans d⟩
theorem EnvR.step {C:Ctx}{H H':Hp}{loc:Loc}(x:EnvR B C env ι s.heap loc) (q:HR B ι H s.heap) (p:Post B ι s ι' H' s'):EnvR B C env ι' s'.heap loc:=by
 have g:∀a,a∉ι->∀o,s.heap.get? a=some o->∃o',s'.heap.get? a=some o'/\o'.data=o.data:=λa j o e=>by refine eT (p.kept.data e j) λo' D A _=>?_;exact⟨o',D,A⟩
 have off:∀a o,s.heap.get? a=some o->a∉ι->a∉ι':=λa o e j z=>(p.new a z).elim j λw=>by rw[e] at w;cases w
 refine⟨x.kind,x.names,x.glob,x.blt,?_,?_,x.newL,λy c f b=>?_,λy c f b=>?_,x.apart,x.len,λi y hi=>?_⟩
 ·refine cG (x.ns) λm n=>?_;exact⟨m,Ns.of_data n (g _ x.offL)⟩
 ·refine rD (x.ns) λm o es ep e r=>?_;exact off _ o e x.offL
 ·refine fT (x.offC y c f b) λl t u=>?_;refine kB (x.isC y c f b) λh o e r=>?_;exact⟨off _ o e l,t,u⟩
 ·refine cG (x.isC y c f b) λh r=>?_;exact⟨h,Cell.of_data r (g _ (x.offC y c f b).1)⟩
 ·refine aK (x.vars i y hi) λh F hv=>?_;refine⟨h,?_,λd E=>?_⟩
  ·rcases F with⟨k,m,n,e⟩|⟨k,c,e,r⟩
   ·exact .inl ⟨k,m,Ns.of_data n (g _ x.offL),e⟩
   ·exact .inr ⟨k,c,e,Cell.of_data r (g _ (x.offC y c (yc hi) e).1)⟩
  ·refine aK (hv d E) λv e r=>?_;exact⟨v,e,p.vr q r⟩
end Mine
namespace Mine
open PySem
structure PEnv where
 prog:Program
 w:World
 B:Heap
 mg:Str->Option Value
 mb:Str->Option Value
 /-- the defs of the class,by their names of two parts -/
 mc:Str->Option Value
noncomputable def PEnv.fn (P:PEnv) (x:Str):Option Value:=match P.mg x with|some v=>some v|none=>P.mc x
theorem PEnv.fn_mg {P:PEnv}{x:Str}{v:Value}(h:P.mg x=some v):P.fn x=some v:=by unfold PEnv.fn;rw[h]
theorem PEnv.fn_mc {P:PEnv}{x:Str}(h:P.mg x=none):P.fn x=P.mc x:=by unfold PEnv.fn;rw[h]
structure PEnv.OK (P:PEnv):Prop where
 g:P.B.Ns dA P.mg
 b:P.B.Ns builtinsNs P.mb
 nolimit:P.B.NoLimit
noncomputable def fAs (l:List Env):List Addr:=l.filterMap (·.frame)
structure XLeft (B:Heap) (l:List Env) (S ι:List Addr) (s:Shared) (ι':List Addr) (H':Hp) (base:Heap) (s':Shared):Prop where
 pre:ι<+:ι'
 hr:HR B ι' H' base
 stays:base.StaysIn s'.heap
 kept:Kept (S++ι) s.heap s'.heap
 inb:∀a o,s.heap.get? a=some o->a∉S++ι->a∉fAs l->∃sl,base.get? a=some { o with slots:=sl }
 new:∀a∈ι',a∈ι\/s.heap.get? a=da
 same:s'.gens=s.gens/\s'.os=s.os
def rK (P:PEnv) (l:List Env) (S ι:List Addr) (s:Shared) (ι':List Addr) (H':Hp) (s':Shared) (e:Value) (c:Str):Prop :=
 ∃ea base D,e=.ref ea/\P.mg c=some (.ref D)/\XLeft P.B l S ι s ι' H' base s'/\∃a0,Heap.FlyingW base l ea (.ref D) a0 s'.heap
abbrev XP:=Str->Hp->Prop
def Acc (P:PEnv) (A:Around) (X:XP) (ι:List Addr) (s:Shared) (E:Value->Shared->Prop):Prop :=
 ∀l,A.frames=some l->∀e s' ι' H' c,rK P l [] ι s ι' H' s' e c->X c H'->E e s'
theorem XLeft.before {l:List Env}{j:Shared}{m h:Hp}{base:Heap}(p:Post B ι s ι1 m s1) (x:XLeft B l [] ι1 s1 ι2 h base j):XLeft B l [] ι s ι2 h base j:=by
 have out:∀a o,s.heap.get? a=some o->a∉ι->a∉ι1:=λa o e b q=>(p.new a q).elim b λz=>by rw[e] at z;cases z
 refine⟨p.pre.trans x.pre,x.hr,x.stays,λa o e b=>?_,λa o e b r=>?_,λa n=>?_,?_⟩
 ·refine aK (p.kept a o e b) λk f i=>?_;refine aK (x.kept a _ f (out a o e b)) λd g t=>?_;exact⟨d,g,λc=>(t c).trans (i c)⟩
 ·refine aK (p.kept a o e b) λk f i=>?_;refine cG (x.inb a _ f (out a o e b) r) λd g=>?_;exact⟨d,g⟩
 ·by_cases hi:a∈ι
  ·exact .inl hi
  ·right;rcases x.new a n with q|q
   ·exact(p.new a q).resolve_left hi
   ·cases e:s.heap.get? a with
    | none=>rfl
    | some o =>
     refine aK (p.kept a o e hi) λk f _=>?_;rw[f] at q;cases q
 ·exact⟨x.same.1.trans p.same.1,x.same.2.trans p.same.2⟩
theorem Acc.step {P:PEnv}{X:XP}{H':Hp}(x:Acc P A X ι s E) (p:Post P.B ι s ι' H' s'):Acc P A X ι' s' E:=by rintro l k e d a b c ⟨f,base,D,g,h,i,j⟩ m;exact x l k e d a b c ⟨f,base,D,g,h,i.before p,j⟩ m
inductive Gives (B:Heap) (ι:List Addr) (s:Shared) (Q:AV->Hp->Prop) (v:Value) (s':Shared):Prop where
 | mk (ι':List Addr) (H':Hp) (av:AV) (p:Post B ι s ι' H' s') (r:VR B s'.heap ι' av v) (q:Q av H')
theorem gRE {M:Model}{α:Type}{t:Sem α}{Q:α->Shared->Prop}(h:∀(R:α->Shared->Prop) (F:Value->Shared->Prop),(∀v s,Q v s->R v s)->aP M A t R F s):aP M A t Q E s:=h Q E λ_ _ x=>x
theorem gv {M:Model}{t:Sem Value}{Q:AV->Hp->Prop}{R:Value->Shared->Prop}(h:aP M A t (Gives B ι s Q) E s0)
  (k:∀v s1 ι1 a x,Post B ι s ι1 a s1->VR B s1.heap ι1 x v->Q x a->R v s1):aP M A t R E s0 :=
 aD h (λv s1 g=>by cases g with|mk ι1 a x p r q=>exact k v s1 ι1 a x p r q) λ_ _ x=>x
theorem Gives.mono {Q b:AV->Hp->Prop}{v:Value}(g:Gives B ι s Q v s') (h:∀a H,Q a H->b a H):Gives B ι s b v s':=by obtain⟨ι',H',av,p,r,q⟩:=g;exact⟨ι',H',av,p,r,h _ _ q⟩
theorem Gives.before {a:Hp}{Q:AV->Hp->Prop}{v:Value}(p:Post B ι s ι1 a s1) (g:Gives B ι1 s1 Q v s'):Gives B ι s Q v s':=by obtain⟨ι',H',av,b,r,q⟩:=g;exact⟨ι',H',av,p.trans b,r,q⟩
theorem Gives.now {H:Hp}{Q:AV->Hp->Prop}{v:Value}{av:AV}(t:Nat) (a:HR B ι H s.heap) (r:VR B s.heap ι av v) (q:Q av H):Gives B ι s Q v { s with toks:=t } :=
 ⟨ι,H,av,Post.refl a t,r,q⟩
theorem Gives.same {H:Hp}{Q:AV->Hp->Prop}{v:Value}{av:AV}(a:HR B ι H s.heap) (r:VR B s.heap ι av v) (q:Q av H):Gives B ι s Q v s :=
 Gives.now s.toks a r q
inductive GivesB (B:Heap) (ι:List Addr) (s:Shared) (Q:Bool->Hp->Prop) (b:Bool) (s':Shared):Prop where
 | mk (ι':List Addr) (H':Hp) (p:Post B ι s ι' H' s') (q:Q b H')
theorem gb {M:Model}{t:Sem Bool}{Q:Bool->Hp->Prop}{R:Bool->Shared->Prop}(h:aP M A t (GivesB B ι s Q) E s0)
  (k:∀v s1 ι1 a,Post B ι s ι1 a s1->Q v a->R v s1):aP M A t R E s0 :=
 aD h (λv s1 g=>by cases g with|mk ι1 a p q=>exact k v s1 ι1 a p q) λ_ _ x=>x
inductive GivesL (B:Heap) (ι:List Addr) (s:Shared) (Q:List AV->Hp->Prop) (vs:List Value) (s':Shared):Prop where
 | mk (ι':List Addr) (H':Hp) (l:List AV) (p:Post B ι s ι' H' s') (r:VRs B s'.heap ι' l vs) (q:Q l H')
theorem gll {M:Model}{t:Sem (List Value)}{Q:List AV->Hp->Prop}{R:List Value->Shared->Prop}(h:aP M A t (GivesL B ι s Q) E s0)
  (k:∀v s1 ι1 a x,Post B ι s ι1 a s1->VRs B s1.heap ι1 x v->Q x a->R v s1):aP M A t R E s0 :=
 aD h (λv s1 g=>by cases g with|mk ι1 a x p r q=>exact k v s1 ι1 a x p r q) λ_ _ x=>x
section
variable (P:PEnv) (C:Ctx) (d:Nat)
def EvOK (e:Expr) (loc:Loc) (H:Hp) (Q:AV->Hp->Prop) (X:XP):Prop :=
 ∀A E env ι s,W P.B A d ι H s->EnvR P.B C env ι s.heap loc->Acc P A X ι s E->aP (model P.prog P.w) A (eval e env) (Gives P.B ι s Q) E s
def TsOK (e:Expr) (loc:Loc) (H:Hp) (Q:Bool->Hp->Prop) (X:XP):Prop :=
 ∀A E env ι s,W P.B A d ι H s->EnvR P.B C env ι s.heap loc->Acc P A X ι s E->aP (model P.prog P.w) A (isTrue e env (eval e env)) (GivesB P.B ι s Q) E s
def lH (es:List Expr) (loc:Loc) (H:Hp) (Q:List AV->Hp->Prop) (X:XP):Prop :=
 ∀A E env ι s pos,W P.B A d ι H s->EnvR P.B C env ι s.heap loc->Acc P A X ι s E->aP (model P.prog P.w) A (spliced (backTo pos (bD es env))) (GivesL P.B ι s Q) E s
def OpOK (t:List Value->Sem Value) (args:List AV) (H:Hp) (Q:AV->Hp->Prop):Prop :=
 ∀A E ι s vs,W P.B A d ι H s->VRs P.B s.heap ι args vs->aP (model P.prog P.w) A (t vs) (Gives P.B ι s Q) E s
end
variable {P:PEnv}{C:Ctx}{d:Nat}{loc:Loc}{H:Hp}{X:XP}
theorem EvOK.mono {Q b:AV->Hp->Prop}(h:EvOK P C d e loc H Q X) (q:∀a H',Q a H'->b a H'):EvOK P C d e loc H b X :=
 λA E env ι s w r a=>aD (h A E env ι s w r a) (λ_ _ g=>g.mono q) λ_ _ x=>x
theorem lH.mono {Q b:List AV->Hp->Prop}(h:lH P C d es loc H Q X) (q:∀a H',Q a H'->b a H'):lH P C d es loc H b X :=
 λA E env ι s pos w r a=>aD (h A E env ι s pos w r a) (λ_ _ g=>by obtain⟨ι',H',l,p,r,z⟩:=g;exact⟨ι',H',l,p,r,q _ _ z⟩) λ_ _ x=>x
theorem TsOK.mono {Q b:Bool->Hp->Prop}(h:TsOK P C d e loc H Q X) (q:∀a H',Q a H'->b a H'):TsOK P C d e loc H b X :=
 λA E env ι s w r a=>aD (h A E env ι s w r a) (λ_ _ g=>by obtain⟨ι',H',p,z⟩:=g;exact⟨ι',H',p,q _ _ z⟩) λ_ _ x=>x
theorem VR.mkInt (i:Int) (t:Tok):VR B h ι (.int i) (.int i t):=⟨t,rfl⟩
theorem VR.mkBool (b:Bool):VR B h ι (.bool b) (.bool b):=rfl
theorem VR.mkNone :VR B h ι .none .none:=rfl
theorem VR.mkStr (x:Str) (t:Tok) (a:ff x=true):VR B h ι (.str x) (.str x t):=⟨a,t,rfl⟩
theorem AX {i:Int}{Q:AV->Hp->Prop}(h:Q (.int i) H):EvOK P C d (.Constant (.int i) k pos) loc H Q X :=
 λ_ _ _ _ s w _ _=>wpAny_Constant_int (Gives.now _ w.hr (VR.mkInt i s.toks) h)
theorem A3 {x:Str}{Q:AV->Hp->Prop}(a:ff x=true) (h:Q (.str x) H):EvOK P C d (.Constant (.str x) k pos) loc H Q X :=
 λ_ _ _ _ s w _ _=>wpAny_Constant_str (Gives.now _ w.hr (VR.mkStr x s.toks a) h)
theorem Cp {b:Bool}{Q:AV->Hp->Prop}(h:Q (.bool b) H):EvOK P C d (.Constant (.bool b) k pos) loc H Q X :=
 λ_ _ _ _ _ w _ _=>wpAny_Constant_bool (Gives.same w.hr (VR.mkBool b) h)
theorem Cu {Q:AV->Hp->Prop}(h:Q .none H):EvOK P C d (.Constant .none k pos) loc H Q X :=
 λ_ _ _ _ _ w _ _=>wpAny_Constant_none (Gives.same w.hr VR.mkNone h)
theorem AZ {x:Str}{v:AV}{Q:AV->Hp->Prop}(o:C.vars[i]?=some (some x)) (j:(x == ("__debug__" : Str))=false) (f:(x == ("__classdict__" : Str))=false) (hv:loc[i]?=some (some v)) (h:Q v H) :
  EvOK P C d (.Name x pos) loc H Q X:=λA E env ι s w r a=>by
 refine aK (r.vars i x o) λp l q=>?_;refine aK (q v hv) λu b vr=>?_;subst b;refine mv ?_ j;have fin:Gives P.B ι s Q u s:=Gives.same w.hr vr h;rcases l with⟨k,m,n,e⟩|⟨k|k,c,e,g⟩
 ·exact g_ r.kind k n e fin
 ·exact wpAny_loadName_cell r.kind k e g fin
 ·exact wpAny_loadName_free r.kind k e g fin f
theorem Cs {x:Str}{v:AV}{u:Value}{Q:AV->Hp->Prop}(ok:P.OK) (c:(x == ("__debug__" : Str))=false) (f:P.mg x=some u) (hv:∀h ι,P.B.StaysIn h->VR P.B h ι v u) (h:Q v H)
  (i:C.names.lookup x=some .globalImplicit) :
  EvOK P C d (.Name x pos) loc H Q X:=λA E env ι s w r a=>by
 refine bk r.kind (by unfold cC;rw[r.names];exact i) ?_ c;exact dh (r.glob▸ok.g.keeps λb o e=>w.hr.base b o e) f (Gives.same w.hr (hv _ _ w.hr.base) h)
theorem wv {l r:Expr}{op:Operator}{Q:AV->Hp->Prop}
  (h:EvOK P C d l loc H (λx b=>EvOK P C d r loc b (λy c=>OpOK P d (λvs=>binaryOp op (vs.getD 0 .none) (vs.getD 1 .none)) [x,y] c Q) X) X) :
  EvOK P C d (.BinOp l op r pos) loc H Q X:=λA E env ι s w e a=>by
 refine lK (gv (h A E env ι s w e a) (λu s1 ι1 b x p1 f g=>?_));refine gv (g A E env ι1 s1 (w.step p1) (e.step w.hr p1) (a.step p1)) (λk j ι2 c y p2 i g=>?_);exact aD (g A E ι2 j [u,k] ((w.step p1).step p2) ⟨_,_,rfl,p2.vr p1.hr f,_,_,rfl,i,rfl⟩) (λ_ _ g=>(g.before p2).before p1) λ_ _ x=>x
theorem AW {l r:Expr}{op:CmpOp}{Q:AV->Hp->Prop}
  (h:EvOK P C d l loc H (λx b=>EvOK P C d r loc b (λy c=>OpOK P d (λvs=>compareOp op (vs.getD 0 .none) (vs.getD 1 .none)) [x,y] c Q) X) X)
  (f:behindInMarks op r=false) :
  EvOK P C d (.Compare l [op] [r] pos) loc H Q X:=λA E env ι s w e a=>by
 refine wpAny_Compare1 (gv (h A E env ι s w e a) (λu s1 ι1 b x p1 i g=>?_)) f;refine gv (g A E env ι1 s1 (w.step p1) (e.step w.hr p1) (a.step p1)) (λm k ι2 c y p2 j g=>?_);exact aD (g A E ι2 k [u,m] ((w.step p1).step p2) ⟨_,_,rfl,p2.vr p1.hr i,_,_,rfl,j,rfl⟩) (λ_ _ g=>(g.before p2).before p1) λ_ _ x=>x
theorem uO {M:Model}{v:Value}{Q:Bool->Hp->Prop}(g:Gives B ι s (λa H'=>∃b,a=.bool b/\Q b H') v s1):aP M A (truthy v) (GivesB B ι s Q) E s1:=by obtain⟨ι1,c,x,p1,d,b,rfl,q⟩:=g;cases d;exact d6 ⟨ι1,c,p1,q⟩
theorem Ci {l r:Expr}{op:CmpOp}{Q:Bool->Hp->Prop}
  (h:EvOK P C d l loc H (λx c=>EvOK P C d r loc c (λy f=>OpOK P d (λvs=>compareOp op (vs.getD 0 .none) (vs.getD 1 .none)) [x,y] f (λa H'=>∃b,a=.bool b/\Q b H')) X) X)
  (i:behindInMarks op r=false) :
  TsOK P C d (.Compare l [op] [r] pos) loc H Q X:=λA E env ι s w e a=>by
 refine wpAny_isTrue_Compare1 (gv (h A E env ι s w e a) (λu s1 ι1 c x p1 j g=>?_)) i;refine gv (g A E env ι1 s1 (w.step p1) (e.step w.hr p1) (a.step p1)) (λn m ι2 f y p2 k g=>?_);exact aD (g A E ι2 m [u,n] ((w.step p1).step p2) ⟨_,_,rfl,p2.vr p1.hr j,_,_,rfl,k,rfl⟩) (λ_ _ g=>uO ((g.before p2).before p1)) λ_ _ x=>x
theorem EX {Q:Bool->Hp->Prop}(h:EvOK P C d e loc H (λa H'=>∃b,a=.bool b/\Q b H') X)
  (f:∀env c,isTrue e env c=(do let v <-c;standAt e.pos;holding [v] (truthy v))):TsOK P C d e loc H Q X:=λA E env ι s w r a =>
 PyProof.Rows.isTrue_plain (aD (h A E env ι s w r a) (λ_ _ g=>uO g) λ_ _ x=>x) (f env _)
theorem BR {x:Expr}{Q:Bool->Hp->Prop}(h:TsOK P C d x loc H (λb H'=>Q (!b) H') X):TsOK P C d (.UnaryOp .Not x pos) loc H Q X:=λA E env ι s w r a =>
 PyProof.Rows.isTrue_not (gb (h A E env ι s w r a) λ_ _ ι' H' p q=>⟨ι',H',p,q⟩)
theorem A2 {x:Expr}{Q:AV->Hp->Prop}(h:EvOK P C d x loc H (λv H'=>∃b,v=.bool b/\Q (.bool !b) H') X):EvOK P C d (.UnaryOp .Not x pos) loc H Q X:=λA E env ι s w r a =>
 PyProof.Rows.UnaryOp_ (aD (h A E env ι s w r a) (λv s1 g=>by
  obtain⟨ι1,c,x,p1,e,b,rfl,q⟩:=g;cases e;exact PyProof.Rows.not_of (d6 ⟨ι1,c,.bool !b,p1,rfl,q⟩)) λ_ _ x=>x)
theorem GivesB.before {a:Hp}{Q:Bool->Hp->Prop}{v:Bool}(p:Post B ι s ι1 a s1) (g:GivesB B ι1 s1 Q v s'):GivesB B ι s Q v s':=by obtain⟨ι',H',b,q⟩:=g;exact⟨ι',H',p.trans b,q⟩
theorem Gq {Q:Bool->Hp->Prop}(h:Q true H):TsOK P C d (.BoolOp .And [] pos) loc H Q X:=λ_ _ _ ι _ w _ _=>PyProof.Rows.isTrue_and_nil ⟨ι,H,Post.id w.hr,h⟩
theorem F8 {Q:Bool->Hp->Prop}(h:Q false H):TsOK P C d (.BoolOp .Or [] pos) loc H Q X:=λ_ _ _ ι _ w _ _=>PyProof.Rows.isTrue_or_nil ⟨ι,H,Post.id w.hr,h⟩
theorem uI {op:BoolOp}{vs:List Expr}(t t':Sem Value):isTrue (.BoolOp op vs pos) env t=isTrue (.BoolOp op vs pos) env t':=rfl
theorem ud {x:Expr}{c:List Expr}{Q:Bool->Hp->Prop}(h:TsOK P C d x loc H (λb H'=>if b then TsOK P C d (.BoolOp .And c pos) loc H' Q X else Q false H') X) :
  TsOK P C d (.BoolOp .And (x::c) pos) loc H Q X:=λA E env ι s w e a=>by
 refine PyProof.Rows.isTrue_and (gb (h A E env ι s w e a) (λb s1 ι1 f p1 g=>?_));cases b with
 | false=>exact⟨ι1,f,p1,g⟩
 | true =>
  show aP _ _ _ _ _ _;rw[uI _ (eval (.BoolOp .And c pos) env)];exact aD (g A E env ι1 s1 (w.step p1) (e.step w.hr p1) (a.step p1)) (λ_ _ g=>g.before p1) λ_ _ x=>x
theorem tJ {x:Expr}{c:List Expr}{Q:Bool->Hp->Prop}(h:TsOK P C d x loc H (λb H'=>if b then Q true H' else TsOK P C d (.BoolOp .Or c pos) loc H' Q X) X) :
  TsOK P C d (.BoolOp .Or (x::c) pos) loc H Q X:=λA E env ι s w e a=>by
 refine PyProof.Rows.isTrue_or (gb (h A E env ι s w e a) (λb s1 ι1 f p1 g=>?_));cases b with
 | true=>exact⟨ι1,f,p1,g⟩
 | false =>
  show aP _ _ _ _ _ _;rw[uI _ (eval (.BoolOp .Or c pos) env)];exact aD (g A E env ι1 s1 (w.step p1) (e.step w.hr p1) (a.step p1)) (λ_ _ g=>g.before p1) λ_ _ x=>x
theorem yP {op:BoolOp}{x:Expr}{Q:AV->Hp->Prop}(h:EvOK P C d x loc H Q X):EvOK P C d (.BoolOp op [x] pos) loc H Q X:=λA E env ι s w e a =>
 PyProof.Rows.BoolOp_one (h A E env ι s w e a)
theorem wq {x y:Expr}{c:List Expr}{pos:Pos}{Q:AV->Hp->Prop}(h:EvOK P C d x loc H (λv H'=>∃b,v=.bool b/\if b then EvOK P C d (.BoolOp .And (y::c) pos) loc H' Q X else Q (.bool false) H') X) :
  EvOK P C d (.BoolOp .And (x::y::c) pos) loc H Q X:=λA E env ι s w e a=>by
 refine PyProof.Rows.BoolOp_and (gv (h A E env ι s w e a) (λv s1 ι1 i x p1 k g=>?_));refine aK (g) λb f j=>?_;clear g;revert j;intro g;subst f;cases k;refine d6 ?_;cases b with
 | false=>exact⟨ι1,i,.bool false,p1,rfl,g⟩
 | true=>exact aD (g A E env ι1 s1 (w.step p1) (e.step w.hr p1) (a.step p1)) (λ_ _ g=>g.before p1) λ_ _ x=>x
theorem v3 {x y:Expr}{c:List Expr}{pos:Pos}{Q:AV->Hp->Prop}(h:EvOK P C d x loc H (λv H'=>∃b,v=.bool b/\if b then Q (.bool true) H' else EvOK P C d (.BoolOp .Or (y::c) pos) loc H' Q X) X) :
  EvOK P C d (.BoolOp .Or (x::y::c) pos) loc H Q X:=λA E env ι s w e a=>by
 refine PyProof.Rows.BoolOp_or (gv (h A E env ι s w e a) (λv s1 ι1 i x p1 k g=>?_));refine aK (g) λb f j=>?_;clear g;revert j;intro g;subst f;cases k;refine d6 ?_;cases b with
 | true=>exact⟨ι1,i,.bool true,p1,rfl,g⟩
 | false=>exact aD (g A E env ι1 s1 (w.step p1) (e.step w.hr p1) (a.step p1)) (λ_ _ g=>g.before p1) λ_ _ x=>x
theorem uh {Q:List AV->Hp->Prop}(h:Q [] H):lH P C d [] loc H Q X:=λ_ _ _ ι _ _ w _ _=>wpAny_items_nil ⟨ι,H,[],Post.id w.hr,rfl,h⟩
theorem uN {x:Expr}{b:List Expr}{Q:List AV->Hp->Prop}(h:EvOK P C d x loc H (λv H'=>lH P C d b loc H' (λvs c=>Q (v::vs) c) X) X)
  (i:∀env,bD (x::b) env=(false,eval x env)::bD b env) :
  lH P C d (x::b) loc H Q X:=λA E env ι s pos w e a=>by
 refine lD (gv (h A E env ι s w e a) (λv s1 ι1 m x p1 j g=>?_)) (i env);refine gll (g A E env ι1 s1 pos (w.step p1) (e.step w.hr p1) (a.step p1)) (λvs n ι2 f l p2 k g=>?_);exact⟨ι2,f,x::l,p1.trans p2,⟨_,_,rfl,p2.vr p1.hr j,k⟩,g⟩
end Mine
namespace Mine
open PySem
theorem oH (k:∀a o,h.get? a=some o->h'.get? a=some o):Kept [] h h':=Kept.of_keeps λa o _ e=>k a o e
theorem n_ :kD [] h:=λ_ q=>nomatch q
theorem HR.there {H:Hp}(q:HR B ι H h){a:Addr}(e:ι[i]?=some a):∃o,H[i]?=some o/\OR B h ι a o:=by have d:i<H.length:=q.len▸(ym e).1;refine⟨H[i],ak d,?_⟩;refine aK (q.objs i H[i] (ak d)) λb c o=>?_;rw[e] at c;cases c;exact o
theorem OR.some {a:Addr}{o:AObj}(q:OR B h ι a o):∃x,h.get? a=some x:=by
 cases o with
 | list l=>obtain⟨_,⟨_,e⟩,_⟩:=q;exact⟨_,e⟩
 | dict l=>obtain⟨_,_,_,_,e,_⟩:=q;exact⟨_,e⟩
 | dicE l n=>obtain⟨_,_,_,e,_⟩:=q;exact⟨_,e⟩
theorem HR.mem {B:Heap}{ι:List Addr}{H:Hp}{h:Heap}(q:HR B ι H h){a:Addr}(m:a∈ι):∃x,h.get? a=some x:=by refine cG (cQ m) λi b=>?_;refine cG (b) λhi c=>?_;clear b;subst c;refine aK (q.there (ak hi)) λo _ r=>?_;exact r.some
theorem jO {a:Addr}{o:Obj}{G:Prop}(e:h.get? a=none) (b:h.get? a=some o):G:=by rw[e] at b;cases b
theorem HR.noB {H:Hp}(q:HR B ι H h){b:Addr}(e:h.get? b=none):B.get? b=none:=by
 cases z:B.get? b with
 | none=>rfl
 | some o=>exact jO e (q.base b o z)
theorem HR.off {T:List Addr}{H:Hp}(q:HR B ι H h) (c:∀b o,b∉T->h.get? b=some o->h'.get? b=some o) (k:kD T h) (i:∀a∈T,a∉ι) (g:∀a∈T,B.get? a=none):HR B ι H h' :=
 ⟨λb o e=>c b o (λm=>jO (g b m) e) (q.base b o e),q.fresh,q.nodup,q.len,λj o f=>aK (q.objs j o f) λa d r =>
  ⟨a,d,r.mono (Kept.of_keeps c) k (af _) λo=>c a o λm=>i a m (yc d)⟩⟩
theorem HR.keep {H:Hp}(q:HR B ι H h) (k:∀a o,h.get? a=some o->h'.get? a=some o):HR B ι H h' :=
 ⟨λa o e=>k a o (q.base a o e),q.fresh,q.nodup,q.len,λi o e=>by
  refine aK (q.objs i o e) λa b r=>?_;exact⟨a,b,r.mono (oH k) n_ (af _) (k a)⟩⟩
theorem Post.keep {H:Hp}(q:HR B ι H s.heap) (k:∀a o,s.heap.get? a=some o->h'.get? a=some o):Post B ι s ι H { s with heap:=h',toks:=t } :=
 ⟨af _,q.keep k,Kept.of_keeps λa o _ e=>k a o e,λ_ h=>.inl h,rfl,rfl⟩
theorem HR.alloc {H:Hp}(q:HR B ι H h) (k:∀a o,h.get? a=some o->h'.get? a=some o){a:Addr}(d:h.get? a=none){o:AObj}(l:OR B h' (ι++[a]) a o) :
  HR B (ι++[a]) (H++[o]) h':=by
 refine⟨λb x e=>k b x (q.base b x e),λb j=>?_,?_,by simp[q.len],λi x e=>?_⟩
 ·rcases yd j with m|m
  ·exact q.fresh b m
  ·have:=yb m;subst this;cases z:B.get? b with
   | none=>rfl
   | some x=>have:=q.base b x z;rw[d] at this;cases this
 ·refine dU.mpr ⟨q.nodup,by simp,λx p y s e=>?_⟩;have:=yb s;subst this;subst e;refine cG (q.mem p) λz f=>?_;rw[d] at f;cases f
 ·by_cases hi:i<H.length
  ·rw[bJ hi] at e;refine aK (q.objs i x e) λb g r=>?_;exact⟨b,ou (bE _ _) g,r.mono (oH k) n_ (bE _ _) (k b)⟩
  ·rw[cW (hV.mp hi)] at e;have c:i-H.length=0:=by
    cases z:i-H.length with
    | zero=>rfl
    | succ n=>rw[z] at e;simp at e
   rw[c] at e;simp only[iG,dR] at e;subst e;refine⟨a,?_,l⟩;have:i=ι.length:=by rw[q.len];exact z94 hi c
   subst this;simp
theorem Post.alloc {H:Hp}(q:HR B ι H s.heap) (k:∀a o,s.heap.get? a=some o->h'.get? a=some o){a:Addr}(b:s.heap.get? a=none){o:AObj}(d:OR B h' (ι++[a]) a o) :
  Post B ι s (ι++[a]) (H++[o]) { s with heap:=h',toks:=t } :=
 ⟨bE _ _,q.alloc k b d,Kept.of_keeps λa o _ e=>k a o e,λ_ c=>(yd c).elim .inl λm=>.inr (yb m▸b),rfl,rfl⟩
theorem y5 {l:List Addr}(n:l.Nodup):∀{i j:Nat}(hi:i<l.length) (a:j<l.length),l[i]=l[j]->i=j:=by
 intro i j hi a e;have b:∀{i j:Nat}(hi:i<l.length) (a:j<l.length),i<j->l[i]≠l[j]:=λhi a c=>(eI.mp n) _ _ hi a c;rcases iB i j with h|h|h
 ·exact absurd e (b hi a h)
 ·exact h
 ·exact absurd e.symm (b a hi h)
theorem HR.upd {H:Hp}(q:HR B ι H h){a:Addr}(f:ι[i]?=some a) (k:∀b x,b≠a->h.get? b=some x->h'.get? b=some x){o:AObj}(t:OR B h' ι a o) :
  HR B ι (H.set i o) h':=by
 have u:Kept [a] h h':=Kept.of_keeps λb x d e=>k b x (λz=>d (z▸yn rfl)) e;have l:a∈ι:=yc f;have v:kD [a] h:=λb d=>by rw[yb d];exact q.noTup a l
 refine⟨λb x e=>k b x (λz=>?_) (q.base b x e),q.fresh,q.nodup,by rw[bh];exact q.len,λj x e=>?_⟩
 ·have:=q.fresh a l;rw[<-z,e] at this;cases this
 ·rw[j5] at e;split at e
  ·rename_i c;subst c;split at e
   ·simp only[dR] at e;subst e;exact⟨a,f,t⟩
   ·cases e
  ·rename_i c;refine aK (q.objs j x e) λb g r=>?_;refine⟨b,g,r.mono u v (af _) λy=>k b y λd=>?_⟩;subst d;refine cG (ym f) λp m=>?_;refine cG (ym g) λs n=>?_;exact c (y5 q.nodup p s (m.trans n.symm))
theorem Post.upd {H:Hp}(q:HR B ι H s.heap){a:Addr}(c:ι[i]?=some a) (k:∀b x,b≠a->s.heap.get? b=some x->h'.get? b=some x){o:AObj}(f:OR B h' ι a o) :
  Post B ι s ι (H.set i o) { s with heap:=h',toks:=t } :=
 ⟨af _,q.upd c k f,Kept.of_keeps λb x d e=>k b x (λz=>d (z▸yc c)) e,λ_ h=>.inl h,rfl,rfl⟩
theorem HR.vrs_upd {H:Hp}(q:HR B ι H h){a:Addr}(d:a∈ι) (k:∀b x,b≠a->h.get? b=some x->h'.get? b=some x){l:List AV}(r:VRs B h ι l vs):VRs B h' ι l vs :=
 VRs.mono (S:=[a]) (Kept.of_keeps λb x c e=>k b x (λz=>c (z▸yn rfl)) e) (λb c=>by rw[yb c];exact q.noTup a d) (af _) l vs r
theorem HR.vr_upd {H:Hp}(q:HR B ι H h){a:Addr}(d:a∈ι) (k:∀b x,b≠a->h.get? b=some x->h'.get? b=some x){l:AV}{vs:Value}(r:VR B h ι l vs):VR B h' ι l vs :=
 VR.mono (S:=[a]) (Kept.of_keeps λb x c e=>k b x (λz=>c (z▸yn rfl)) e) (λb c=>by rw[yb c];exact q.noTup a d) (af _) l vs r
theorem VRs.ind {M:List AV->List Value->Prop}(c:M [] []) (d:∀x v l vs,VR B h ι x v->VRs B h ι l vs->M l vs->M (x::l) (v::vs)){l:List AV}:∀{vs:List Value},VRs B h ι l vs->M l vs:=by
 induction l with
 | nil=>exact λ{vs} q=>(show vs=[] from q)▸c
 | cons x l ih=>exact λq=>eX q λv t e a b=>e▸d x v l t a b (ih b)
section
variable {B h:Heap}{ι:List Addr}{l:List AV}{vs:List Value}
theorem VRs.length (q:VRs B h ι l vs):vs.length=l.length:=q.ind (M:=λl vs=>vs.length=l.length) rfl λ_ _ _ _ _ _ e=>congrArg gQ e
theorem VRs.get (q:VRs B h ι l vs):∀{i:Nat}{x:AV},l[i]?=some x->∃v,vs[i]?=some v/\VR B h ι x v :=
 q.ind (M:=λl vs=>∀{i:Nat}{x:AV},l[i]?=some x->∃v,vs[i]?=some v/\VR B h ι x v) (λe=>nomatch e) λy v _ _ a _ ih i x e=>by
  cases i with
  | zero=>exact⟨v,rfl,(yj e:y=x)▸a⟩
  | succ i=>exact ih (i:=i) e
theorem VRs.append {m:List AV}{ws:List Value}(q:VRs B h ι l vs) (r:VRs B h ι m ws):VRs B h ι (l++m) (vs++ws):=q.ind (M:=λl vs=>VRs B h ι (l++m) (vs++ws)) r λ_ v _ t a _ ih=>⟨v,t++ws,rfl,a,ih⟩
theorem VRs.take (n:Nat) (q:VRs B h ι l vs):VRs B h ι (l.take n) (vs.take n) :=
 q.ind (M:=λl vs=>∀n,VRs B h ι (l.take n) (vs.take n)) (λn=>by cases n<;>exact rfl) (λ_ v _ t a _ ih n=>by
  cases n with
  | zero=>exact rfl
  | succ n=>exact⟨v,t.take n,rfl,a,ih n⟩) n
theorem VRs.drop (n:Nat) (q:VRs B h ι l vs):VRs B h ι (l.drop n) (vs.drop n) :=
 q.ind (M:=λl vs=>∀n,VRs B h ι (l.drop n) (vs.drop n)) (λn=>by cases n<;>exact rfl) (λ_ v _ t a b ih n=>by
  cases n with
  | zero=>exact⟨v,t,rfl,a,b⟩
  | succ n=>exact ih n) n
theorem VRs.set {n:Nat}{x:AV}{v:Value}(q:VRs B h ι l vs) (r:VR B h ι x v):VRs B h ι (l.set n x) (vs.set n v) :=
 q.ind (M:=λl vs=>∀n,VRs B h ι (l.set n x) (vs.set n v)) (λ_=>rfl) (λ_ u _ t a b ih n=>by
  cases n with
  | zero=>exact⟨v,t,rfl,r,b⟩
  | succ n=>exact⟨u,t.set n v,rfl,a,ih n⟩) n
end
variable {P:PEnv}{C:Ctx}{d:Nat}{loc:Loc}{H:Hp}{X:XP}
theorem oR (h:Heap):h.get? h.objs.size=none:=by
 cases e:h.get? h.objs.size with
 | none=>rfl
 | some o=>exact absurd (ci e) (c9 _)
theorem vD {l:List AV}{Q:AV->Hp->Prop}(b:HR P.B ι H s.heap) (r:VRs P.B s.heap ι l vs) (q:Q (.tup l) H) :
  Gives P.B ι s Q (.ref s.heap.objs.size) { s with heap:=s.heap.push { cls:=.type "tuple",data:=.seq vs.toArray } }:=by
 have k:∀a o,s.heap.get? a=some o->(s.heap.push { cls:=.type "tuple",data:=.seq vs.toArray }).get? a=some o:=λa o e=>ay _ e;refine⟨ι,H,.tup l,Post.keep (t:=s.toks) b k,?_,q⟩;exact⟨_,vs,rfl,PTup.new _ _,VRs.mono (oH k) n_ (af _) l vs r⟩
theorem vx {l:List AV}{Q:AV->Hp->Prop}(b:HR P.B ι H s.heap) (r:VRs P.B s.heap ι l vs) (q:Q (.ref H.length) (H++[.list l])) :
  Gives P.B ι s Q (.ref s.heap.objs.size) { s with heap:=s.heap.push { cls:=.type "list",data:=.seq vs.toArray } }:=by
 have k:∀a o,s.heap.get? a=some o->(s.heap.push { cls:=.type "list",data:=.seq vs.toArray }).get? a=some o:=λa o e=>ay _ e;refine⟨ι++[s.heap.objs.size],H++[.list l],.ref H.length,Post.alloc (o:=.list l) (t:=s.toks) b k (oR _) ⟨vs,⟨0,ba _ rfl⟩,VRs.mono (oH k) n_ (bE _ _) l vs r⟩,?_,q⟩;exact⟨_,rfl,by rw[<-b.len];simp⟩
theorem wx {Q:AV->Hp->Prop}(h:lH P C d es loc H (λl H'=>l.length<=ag/\Q (.tup l) H') X):EvOK P C d (.Tuple es k pos) loc H Q X:=λA E env ι s w e a=>by refine wpAny_Tuple (gll (h A E env ι s pos w e a) (λvs s1 ι1 f l p1 b g=>?_));refine c7 (g) λc g=>?_;exact⟨by rw[b.length];exact c,(vD p1.hr b g).before p1⟩
theorem A0 {Q:AV->Hp->Prop}(h:lH P C d es loc H (λl H'=>l.length<=ag/\Q (.ref H'.length) (H'++[.list l])) X):EvOK P C d (.List es pos) loc H Q X:=λA E env ι s w e a=>by refine wpAny_List (gll (h A E env ι s pos w e a) (λvs s1 ι1 f l p1 b g=>?_));refine c7 (g) λc g=>?_;exact⟨by rw[b.length];exact c,(vx p1.hr b g).before p1⟩
theorem A4 {o i:Expr}{Q:AV->Hp->Prop}
  (h:EvOK P C d o loc H (λx b=>EvOK P C d i loc b (λy c=>OpOK P d (λvs=>PyProof.Rows.subscriptTail o i (vs.getD 0 .none) (vs.getD 1 .none)) [x,y] c Q) X) X) :
  EvOK P C d (.Subscript o i pos) loc H Q X:=λA E env ι s w e a=>by
 refine PyProof.Rows.Subscript_ (gv (h A E env ι s w e a) (λu s1 ι1 b x p1 f g=>?_));refine gv (g A E env ι1 s1 (w.step p1) (e.step w.hr p1) (a.step p1)) (λl k ι2 c y p2 j g=>?_);exact aD (g A E ι2 k [u,l] ((w.step p1).step p2) ⟨_,_,rfl,p2.vr p1.hr f,_,_,rfl,j,rfl⟩) (λ_ _ g=>(g.before p2).before p1) λ_ _ x=>x
end Mine
namespace Mine
open PySem
inductive MFlow where
 | next|brk|cont
 | ret (v:AV)
 | exc (c:Str)
def FR (B h:Heap) (ι:List Addr):MFlow->Flow->Prop
 | .next,f=>f=.next
 | .brk,f=>f=.brk
 | .cont,f=>f=.cont
 | .ret d,f=>∃v,f=.ret v/\VR B h ι d v
 | .exc _,_=>False
noncomputable def own (C:Ctx) (env:Env):List Addr:=env.locals::(C.vars.drop C.ro).filterMap λo=>o.bind λx=>env.cells.lookup x
theorem qX {C:Ctx}{a:Addr}(h:a∈own C env):a=env.locals\/∃x,some x∈C.vars/\env.cells.lookup x=some a:=by
 rcases yg h with e|m
 ·exact .inl e
 ·refine aK (cz.mp m) λo b e=>?_;cases o with
  | none=>cases e
  | some x=>exact .inr ⟨x,bP b,e⟩
theorem E_ {C:Ctx}{x:Str}{c:Addr}(hi:C.ro<=i) (b:C.vars[i]?=some (some x)) (a:env.cells.lookup x=some c):c∈own C env :=
 yi _ (cz.mpr ⟨some x,yc (i:=i-C.ro) (by rw[hH,bY hi];exact b),a⟩)
structure PostS (B:Heap) (S ι:List Addr) (s:Shared) (ι':List Addr) (H':Hp) (s':Shared):Prop where
 pre:ι<+:ι'
 hr:HR B ι' H' s'.heap
 kept:Kept (S++ι) s.heap s'.heap
 new:∀a∈ι',a∈ι\/s.heap.get? a=da
 same:s'.gens=s.gens/\s'.os=s.os
theorem Post.toS {H':Hp}(p:Post B ι s ι' H' s'):PostS B S ι s ι' H' s' :=
 ⟨p.pre,p.hr,p.kept.mono λ_ h=>yp (.inr h),p.new,p.same⟩
theorem PostS.trans {i:Shared}{j g:Hp}(x:PostS B S ι s ι1 j s1) (y:PostS B S ι1 s1 ι2 g i) (l:∀a∈S,a∉ι2):PostS B S ι s ι2 g i:=by
 have out:∀a o,s.heap.get? a=some o->a∉S++ι->a∉S++ι1:=λa o e b q=>(yd q).elim (λm=>b (yp (.inl m))) λm =>
  (x.new a m).elim (λz=>b (yp (.inr z))) λz=>by rw[e] at z;cases z
 refine⟨x.pre.trans y.pre,y.hr,λa o e b=>?_,λa h=>?_,?_⟩
 ·refine aK (x.kept a o e b) λr d n=>?_;refine aK (y.kept a _ d (out a o e b)) λf k p=>?_;exact⟨f,k,λc=>(p c).trans (n c)⟩
 ·by_cases hi:a∈ι
  ·exact .inl hi
  ·right;rcases y.new a h with q|q
   ·exact(x.new a q).resolve_left hi
   ·cases e:s.heap.get? a with
    | none=>rfl
    | some o =>
     refine aK (x.kept a o e λm=>(yd m).elim (λz=>l a z h) hi) λr d _=>?_;rw[d] at q;cases q
 ·exact⟨y.same.1.trans x.same.1,y.same.2.trans x.same.2⟩
theorem EnvR.offOwn {C:Ctx}{loc:Loc}(x:EnvR B C env ι h loc):∀a∈own C env,a∉ι:=λa b=>by
 rcases qX b with rfl|⟨y,c,e⟩
 ·exact x.offL
 ·exact(x.offC y a c e).1
theorem EnvR.isOwn {C:Ctx}{loc:Loc}(x:EnvR B C env ι h loc):∀a∈own C env,∃o,h.get? a=some o/\(∀vs,o.data≠.fields vs)/\∀vs n,o.data≠.seq vs n:=λa b=>by
 rcases qX b with rfl|⟨y,c,e⟩
 ·refine vN (x.ns) λm o es ep e d _=>?_;exact⟨o,e,λvs=>by rw[d];simp,λvs n=>by rw[d];simp⟩
 ·refine kB (x.isC y a c e) λf o e d=>?_;exact⟨o,e,λvs=>by rw[d];simp,λvs n=>by rw[d];simp⟩
theorem EnvR.noTup {B:Heap}{C:Ctx}{env:Env}{ι:List Addr}{h:Heap}{loc:Loc}{H:Hp}(x:EnvR B C env ι h loc) (q:HR B ι H h):kD (own C env++ι) h:=λa g vs t=>by
 rcases yd g with m|m
 ·refine eT (x.isOwn a m) λo e _ d=>?_;refine eT (t) λo' c _ b=>?_;clear t;refine cG (b) λn f=>?_;clear b;rw[e] at c;cases c;exact d _ _ f
 ·exact q.noTup a m vs t
theorem EnvR.newOwn {C:Ctx}{loc:Loc}(x:EnvR B C env ι h loc):∀a∈own C env,B.get? a=none:=λa b=>by
 rcases qX b with rfl|⟨y,c,e⟩
 ·exact x.newL
 ·exact(x.offC y a c e).2.2
theorem W.stepS {B:Heap}{A:Around}{d:Nat}{C:Ctx}{env:Env}{ι ι':List Addr}{H H':Hp}{s s':Shared}{loc a:Loc}(x:W B A d ι H s) (E:EnvR B C env ι s.heap loc) (p:PostS B (own C env) ι s ι' H' s') (e:EnvR B C env ι' s'.heap a):W B A d ι' H' s':=by
 refine⟨x.room,?_,p.hr⟩;refine aK (x.fr) λJ G q=>?_;refine⟨J,G,λI K=>?_⟩;refine c7 (q I K) λk b=>?_;refine mI (b) λL o l r g h t=>?_;clear b;have u:L∉ι':=λz=>(p.new L z).elim t λw=>by rw[g] at w;cases w
 by_cases v:L∈own C env
 ·rcases qX v with rfl|⟨y,M,F⟩
  ·refine vN (e.ns) λm o' es ep f c _=>?_;exact⟨k,_,o',l,r,f,⟨es,ep,c⟩,u⟩
  ·refine kB (E.isC y L M F) λN o2 j D=>?_;refine kA (h) λes n i=>?_;clear h;rw[g] at j;cases j;rw[D] at i;cases i
 ·refine eT (p.kept.data g λm=>(yd m).elim v t) λo' f c _=>?_;exact⟨k,L,o',l,r,f,c▸h,u⟩
theorem PostS.vr {C:Ctx}{H H':Hp}{loc:Loc}(x:PostS B (own C env) ι s ι' H' s') (q:HR B ι H s.heap) (e:EnvR B C env ι s.heap loc){d:AV}{v:Value}(r:VR B s.heap ι d v):VR B s'.heap ι' d v :=
 VR.mono x.kept (e.noTup q) x.pre d v r
noncomputable def XF:XP:=λ_ _=>False
theorem Acc.no {P:PEnv}:Acc P A XF ι s E:=λ_ _ _ _ _ _ _ _ h=>h.elim
inductive GivesS (B:Heap) (C:Ctx) (env:Env) (ι:List Addr) (s:Shared) (Q:MFlow->Loc->Hp->Prop) (f:Flow) (s':Shared):Prop where
 | mk (ι':List Addr) (H':Hp) (loc':Loc) (fl:MFlow) (p:PostS B (own C env) ι s ι' H' s') (e:EnvR B C env ι' s'.heap loc') (r:FR B s'.heap ι' fl f) (q:Q fl loc' H')
theorem gs {M:Model}{t:Sem Flow}{C:Ctx}{Q:MFlow->Loc->Hp->Prop}{R:Flow->Shared->Prop}(h:aP M A t (GivesS B C env ι s Q) E s0)
  (k:∀f s1 ι1 b a c,PostS B (own C env) ι s ι1 b s1->EnvR B C env ι1 s1.heap a->FR B s1.heap ι1 c f->Q c a b->R f s1):aP M A t R E s0 :=
 aD h (λv s1 g=>by cases g with|mk ι1 b l c p e r q=>exact k v s1 ι1 b l c p e r q) λ_ _ x=>x
theorem GivesS.before {C:Ctx}{b:Hp}{Q:MFlow->Loc->Hp->Prop}{f:Flow}(p:PostS B (own C env) ι s ι1 b s1) (g:GivesS B C env ι1 s1 Q f s'):GivesS B C env ι s Q f s':=by obtain⟨ι',H',a,c,d,e,r,q⟩:=g;exact⟨ι',H',a,c,p.trans d e.offOwn,e,r,q⟩
section
variable (P:PEnv) (C:Ctx) (d:Nat)
def ExOK (st:Stmt) (loc:Loc) (H:Hp) (Q:MFlow->Loc->Hp->Prop):Prop :=
 ∀A E env ι s,W P.B A d ι H s->EnvR P.B C env ι s.heap loc->aP (model P.prog P.w) A (exec st env) (GivesS P.B C env ι s Q) E s
def nV (sts:List Stmt) (loc:Loc) (H:Hp) (Q:MFlow->Loc->Hp->Prop):Prop :=
 ∀A E env ι s,W P.B A d ι H s->EnvR P.B C env ι s.heap loc->aP (model P.prog P.w) A (execs sts env) (GivesS P.B C env ι s Q) E s
end
variable {P:PEnv}{C:Ctx}{d:Nat}{loc:Loc}{H:Hp}
theorem xB {Q:MFlow->Loc->Hp->Prop}(h:Q .next loc H):nV P C d [] loc H Q:=λ_ _ _ ι _ w e=>gg ⟨ι,H,loc,.next,(Post.id w.hr).toS,e,rfl,h⟩
theorem Em {st:Stmt}{i:List Stmt}{Q:MFlow->Loc->Hp->Prop}
  (h:ExOK P C d st loc H (λk b H'=>match k with|.next=>nV P C d i b H' Q|k=>Q k b H')):nV P C d (st::i) loc H Q:=λA E env ι s w e=>by
 refine dM (gs (h A E env ι s w e) (λf s1 ι1 m a k p1 j l g=>?_));cases k with
 | next =>
  cases l;exact aD (g A E env ι1 s1 (w.stepS e p1 j) j) (λ_ _ g=>g.before p1) λ_ _ x=>x
 | brk=>cases l;exact⟨ι1,m,a,.brk,p1,j,rfl,g⟩
 | cont=>cases l;exact⟨ι1,m,a,.cont,p1,j,rfl,g⟩
 | exc c=>exact l.elim
 | ret v=>obtain⟨u,rfl,r⟩:=l;exact⟨ι1,m,a,.ret v,p1,j,⟨u,rfl,r⟩,g⟩
theorem A6 {x:Expr}{Q:MFlow->Loc->Hp->Prop}(h:EvOK P C d x loc H (λv H'=>Q (.ret v) loc H') XF):ExOK P C d (.Return (some x) pos) loc H Q:=λA E env ι s w e=>by rw[gZ];refine ad (fG (ad (gv (h A E env ι s w e Acc.no) (λv s1 ι1 a x p1 b g=>?_))));exact aJ ⟨ι1,a,loc,.ret x,p1.toS,e.step w.hr p1,⟨v,rfl,b⟩,g⟩
theorem zN {t:Expr}{a b:List Stmt}{Q:MFlow->Loc->Hp->Prop}(h:TsOK P C d t loc H (λc H'=>if c then nV P C d a loc H' Q else nV P C d b loc H' Q) XF):ExOK P C d (.If t a b pos) loc H Q:=λA E env ι s w e=>by
 refine wpAny_If (gb (h A E env ι s w e Acc.no) (λc s1 ι1 f p1 g=>?_));cases c with
 | true=>exact aD (g A E env ι1 s1 (w.step p1) (e.step w.hr p1)) (λ_ _ g=>g.before p1.toS) λ_ _ x=>x
 | false=>exact aD (g A E env ι1 s1 (w.step p1) (e.step w.hr p1)) (λ_ _ g=>g.before p1.toS) λ_ _ x=>x
theorem Cz {x:Expr}{Q:MFlow->Loc->Hp->Prop}(h:EvOK P C d x loc H (λ_ H'=>Q .next loc H') XF) (hi:∀env,dQ x none pos.line env=pure false):ExOK P C d (.Expr x pos) loc H Q:=λA E env ι s w e=>by
 refine wpAny_Expr_any (aD (h A E env ι s w e Acc.no) (λv s1 g=>?_) λ_ _ x=>x) ?_ (hi env)
 ·obtain⟨ι1,a,x,p1,b,g⟩:=g;exact⟨ι1,a,loc,.next,p1.toS,e.step w.hr p1,rfl,g⟩
 ·unfold interactive;rw[e.kind];rfl
theorem s_ {h:Heap}{a:Addr}{m f:Str->Option Value}(x:h.Ns a m) (y:h.Ns a f):m=f:=by refine oX (x) λo es ep e d _ r=>?_;clear x;refine oX (y) λo' i g c b _ j=>?_;clear y;rw[e] at c;cases c;rw[d] at b;cases b;funext z;rw[<-r,<-j]
theorem wT {v:AV}{loc:Loc}(hi:i<loc.length):(loc.set i (some v))[j]?=if j=i then some (some v) else loc[j]?:=by
 rw[j5]
 by_cases h:i=j
 ·subst h;simp[hi]
 ·have:¬ j=i:=λe=>h e.symm;simp[h,this]
theorem oQ {a:Addr}{Z:Addr->Prop}(z:Z a):∀b∈[a],Z b:=λ_ c=>yb c▸z
theorem y9 {x:Str}{u:Value}{v:AV}(e:EnvR P.B C env ι h loc) (o:C.vars[i]?=some (some x)) (q:∀j,C.vars[j]?=some (some x)->j=i) (t:∃m,h'.Ns env.locals m)
  (isC:∀y c,some y∈C.vars->env.cells.lookup y=some c->∃f,h'.IsCell c f) (s:Has env h' x (some u)) (l:∀y f,some y∈C.vars->y≠x->Has env h y f->Has env h' y f) (vr:∀d w,VR P.B h ι d w->VR P.B h' ι d w) (r:VR P.B h ι v u):EnvR P.B C env ι h' (loc.set i (some v)):=by
 have hi:i<loc.length:=by rw[e.len];exact(ym o).1
 refine⟨e.kind,e.names,e.glob,e.blt,t,e.offL,e.newL,e.offC,isC,e.apart,by rw[bh];exact e.len,λj y g=>?_⟩
 by_cases b:j=i
 ·subst b;have:=yj (yj (o.symm.trans g));subst this;refine⟨some u,s,λdd a=>⟨u,rfl,?_⟩⟩;rw[wT hi,if_pos rfl] at a;exact yj (yj a)▸vr _ _ r
 ·refine aK (e.vars j y g) λf p hv=>⟨f,l y f (yc g) (λz=>b (q j (z▸g))) p,λdd a=>?_⟩;rw[wT hi,if_neg b] at a;exact aK (hv dd a) λA k n=>⟨A,k,vr _ _ n⟩
theorem qx {x:Str}{u:Value}{v:AV}{Q:Unit->Shared->Prop}(w:HR P.B ι H s.heap) (e:EnvR P.B C env ι s.heap loc)
  (U:C.ro<=i) (F:C.vars[i]?=some (some x)) (hu:∀j,C.vars[j]?=some (some x)->j=i) (p:C.names.lookup x=some .local\/C.names.lookup x=some .cell) (r:VR P.B s.heap ι v u)
  (h:∀s',PostS P.B (own C env) ι s ι H s'->EnvR P.B C env ι s'.heap (loc.set i (some v))->Q () s'):aP (model P.prog P.w) A (storeName env x u) Q E s:=by
 have d:∀y k,C.names.lookup y=k->env.kindOf y=k:=λy k q=>by unfold cC;rw[e.names];exact q
 have fin:∀a h',a∈own C env->(∀b o,b≠a->s.heap.get? b=some o->h'.get? b=some o)->HR P.B ι H h'/\Kept (own C env++ι) s.heap h':=λa h' M k1 =>
  ⟨w.off (T:=[a]) (λb o S O=>k1 b o (λz=>S (z▸yn rfl)) O) (oQ (Z:=λb=>∀vs,¬ PyProof.Rows.IsTup s.heap b vs) (e.noTup w a (yp (.inl M)))) (oQ (Z:=λb=>b∉ι) (e.offOwn a M)) (oQ (Z:=λb=>P.B.get? b=none) (e.newOwn a M)),
   Kept.of_keeps λb o S O=>k1 b o (λz=>S (z▸yp (.inl M))) O⟩
 rcases p with p|p
 ·refine e.ns.elim λm n=>?_;refine jB (d _ _ p) n (λh' V g=>?_) (by rw[e.kind];rfl);have f:=fin env.locals h' (aR ..) g.extBut;refine h _ ⟨af _,f.1,f.2,λ_ q=>.inl q,rfl,rfl⟩ (y9 e F hu ⟨_,V⟩ (λy c t N=>(e.isC y c t N).elim λG q=>⟨G,q.sameBut g (e.offC y c t N).2.1⟩) (.inl ⟨d _ _ p,_,V,by simp⟩) (λy G t D L=>?_) (λ_ _ q=>VR.mono f.2 (e.noTup w) (af _) _ _ q) r);refine L.imp (λq=>⟨q.1,aK q.2 λm' W R=>⟨_,V,?_⟩⟩) λq=>⟨q.1,aK q.2 λc l X=>⟨c,l,X.sameBut g (e.offC y c t l).2.1⟩⟩;have:=s_ n W;subst this;simp[D,R]
 ·refine aK (e.vars i x F) λG L hv=>?_;refine L.elim (λq=>?_) λq=>aK q.2 λc l X=>?_
  ·have k:=q.1;rw[d _ _ p] at k;cases k
  ·have oc:=e.offC x c (yc F) l;refine wpAny_storeName_cell e.kind (d _ _ p) l X λh' c' g=>?_;have f:=fin c h' (E_ U F l) g.extBut;refine h _ ⟨af _,f.1,f.2,λ_ q=>.inl q,rfl,rfl⟩ (y9 e F hu (e.ns.elim λm n=>⟨m,n.sameBut g (Ne.symm oc.2.1)⟩) (λy I t N=>?_) (.inr ⟨.inl (d _ _ p),c,l,c'⟩) (λy G t D L=>?_) (λ_ _ q=>VR.mono f.2 (e.noTup w) (af _) _ _ q) r)
   ·by_cases K:I=c
    ·subst K;exact⟨_,c'⟩
    ·exact(e.isC y I t N).elim λG q=>⟨G,q.sameBut g K⟩
   ·exact L.imp (λq=>⟨q.1,aK q.2 λm' W R=>⟨m',W.sameBut g (Ne.symm oc.2.1),R⟩⟩) λq=>⟨q.1,aK q.2 λc2 J Y=>⟨c2,J,Y.sameBut g λz=>D (e.apart y x c t (yc F) (z▸J) l)⟩⟩
structure Slot (C:Ctx) (i:Nat) (x:Str):Prop where
 lo:C.ro<=i
 at_:C.vars[i]?=some (some x)
 uniq:∀j,C.vars[j]?=some (some x)->j=i
 kind:C.names.lookup x=some .local\/C.names.lookup x=some .cell
theorem FN {x:Str}{v:Expr}{f:Pos}{Q:MFlow->Loc->Hp->Prop}(b:Slot C i x) (h:EvOK P C d v loc H (λa H'=>Q .next (loc.set i (some a)) H') XF)
  (k:∀env,dQ v (some (.Name x f)) pos.line env=pure false):ExOK P C d (.Assign [.Name x f] v pos) loc H Q:=λA E env ι s w e=>by
 refine gH (gv (h A E env ι s w e Acc.no) (λu s1 ι1 j a p1 l g=>?_)) (k env);exact qx p1.hr (e.step w.hr p1) b.lo b.at_ b.uniq b.kind l λs' ps c=>⟨ι1,j,_,.next,PostS.trans p1.toS ps c.offOwn,c,rfl,g⟩
end Mine
namespace Mine
open PySem
variable {P:PEnv}{C:Ctx}{d:Nat}{loc:Loc}{H:Hp}
inductive WhI (P:PEnv) (C:Ctx) (env:Env) (ι:List Addr) (s:Shared) (J:Nat->Loc->Hp->Prop) (n:Nat) (s':Shared):Prop where
 | mk (ι':List Addr) (H':Hp) (loc':Loc) (p:PostS P.B (own C env) ι s ι' H' s') (e:EnvR P.B C env ι' s'.heap loc') (j:J n loc' H')
theorem WhI.el {P:PEnv}{C:Ctx}{J:Nat->Loc->Hp->Prop}{n:Nat}{G:Prop}(h:WhI P C env ι s J n s')
  (k:∀ι' H' d,PostS P.B (own C env) ι s ι' H' s'->EnvR P.B C env ι' s'.heap d->J n d H'->G):G:=by cases h with|mk a b c p e j=>exact k a b c p e j
theorem Ej {t:Expr}{body:List Stmt}{Q:MFlow->Loc->Hp->Prop}(J:Nat->Loc->Hp->Prop) (n:Nat) (K:J n loc H)
  (q:∀n loc H,J n loc H->TsOK P C d t loc H (λc H'=>if c then nV P C d body loc H' (λB h b=>match B with
   | .next=>∃m,m<n/\J m h b
   | .cont=>∃m,m<n/\J m h b
   | .brk=>Q .next h b
   | .ret v=>Q (.ret v) h b
   | .exc _=>False) else Q .next loc H') XF):ExOK P C d (.While t body [] pos) loc H Q:=λA E env ι s w e=>by
 refine wpAny_While ?_;refine codeAny_whileLoop (WhI P C env ι s J) (λn s' L=>L.el λι' H' j p y M=>?_) n ⟨ι,H,loc,(Post.id w.hr).toS,e,K⟩;have F:=w.stepS e p y;refine gb (q n j H' M A _ env ι' s' F y Acc.no) (λc s1 ι1 I p1 g=>?_);have z:=y.step F.hr p1;have G:=p.trans (S:=own C env) p1.toS z.offOwn;cases c with
 | false=>exact gg ⟨ι1,I,j,.next,G,z,rfl,g⟩
 | true =>
  refine gs (g A _ env ι1 s1 (F.step p1) z) (λf N ι2 x a B p2 l o g=>?_);have i:=G.trans p2 l.offOwn;cases B with
  | next=>cases o;obtain⟨m,D,k⟩:=g;exact⟨m,D,ι2,x,a,i,l,k⟩
  | cont=>cases o;obtain⟨m,D,k⟩:=g;exact⟨m,D,ι2,x,a,i,l,k⟩
  | brk=>cases o;exact⟨ι2,x,a,.next,i,l,rfl,g⟩
  | ret v=>obtain⟨u,rfl,r⟩:=o;exact⟨ι2,x,a,.ret v,i,l,⟨u,rfl,r⟩,g⟩
  | exc c=>exact o.elim
inductive TgG (P:PEnv) (C:Ctx) (env:Env) (ι:List Addr) (H:Hp) (s:Shared) (K:Loc->Prop) (u:Unit) (s':Shared):Prop where
 | mk (loc':Loc) (p:PostS P.B (own C env) ι s ι H s') (e:EnvR P.B C env ι s'.heap loc') (k:K loc')
def TgOK (P:PEnv) (C:Ctx) (tg:Expr) (x:AV) (loc:Loc) (K:Loc->Prop):Prop :=
 ∀A E env ι H s v,A.handled=none->HR P.B ι H s.heap->EnvR P.B C env ι s.heap loc->VR P.B s.heap ι x v ->
  aP (model P.prog P.w) A (assign tg env v) (TgG P C env ι H s K) E s
theorem TgG.el {H:Hp}{K:Loc->Prop}{u:Unit}{G:Prop}(h:TgG P C env ι H s K u s') (k:∀d,PostS P.B (own C env) ι s ι H s'->EnvR P.B C env ι s'.heap d->K d->G):G:=by cases h with|mk a b c e=>exact k a b c e
theorem uw {x:Str}{v:AV}{K:Loc->Prop}(a:Slot C i x) (h:K (loc.set i (some v))):TgOK P C (.Name x pos) v loc K:=λA E env ι H s u _ c e r =>
 k7 (qx c e a.lo a.at_ a.uniq a.kind r λs' ps b=>⟨_,ps,b,h⟩)
noncomputable def nf:List (Nat×AV)->Loc->Loc
 | [],l=>l
 | (i,v)::r,l=>nf r (l.set i (some v))
inductive Names (C:Ctx):List Expr->List Nat->Prop
 | nil:Names C [] []
 | cons {x:Str}{pos:Pos}{i:Nat}{es:List Expr}{is:List Nat}:Slot C i x->Names C es is->Names C (.Name x pos::es) (i::is)
theorem Names.each {C:Ctx}{is:List Nat}(n:Names C es is) (env:Env):(assignEach es env).length=es.length/\(assignEach es env).findIdx? (·.1)=none:=by
 induction n with
 | nil=>exact⟨rfl,rfl⟩
 | cons _ _ ih =>
  refine⟨?_,?_⟩
  ·show _+1=_;rw[ih.1];rfl
  ·show List.findIdx? _ ((false,_)::assignEach _ env)=none;rw[List.findIdx?_cons];simp[ih.2]
theorem Names.length {C:Ctx}{is:List Nat}(n:Names C es is):es.length=is.length:=by
 induction n with
 | nil=>rfl
 | cons _ _ ih=>simp[ih]
theorem F6 {A:Around}{E:Value->Shared->Prop}{env:Env}{ι:List Addr}{H:Hp}{s0:Shared}{es:List Expr}{is:List Nat}(n:Names C es is):∀{vs:List AV}{b:List Value}{loc:Loc}{s:Shared}{K:Loc->Prop},vs.length=is.length ->
  PostS P.B (own C env) ι s0 ι H s->EnvR P.B C env ι s.heap loc->VRs P.B s.heap ι vs b->K (nf (is.zip vs) loc) ->
  aP (model P.prog P.w) A (assignInOrder ((assignEach es env).map (·.2)) b) (TgG P C env ι H s0 K) E s:=by
 induction n with
 | nil =>
  intro vs b loc s K a p e r d;have:vs=[]:=bI.mp a;subst this;exact PyProof.Rows.assignInOrder_nil ⟨loc,p,e,d⟩
 | cons sl n ih =>
  intro vs b loc s K a p e r d;cases vs with
  | nil=>cases a
  | cons v vs =>
   refine eX r λu i c g h=>?_;clear r;subst c;refine PyProof.Rows.assignInOrder_cons (k7 (qx p.hr e sl.lo sl.at_ sl.uniq sl.kind g λs' ps f=>?_));exact ih (j8 a) (p.trans ps f.offOwn) f (VRs.mono ps.kept (e.noTup p.hr) (af _) _ _ h) d
theorem ub {es:List Expr}{k:Nat}{is:List Nat}{pos:Pos}{vs:List AV}{K:Loc->Prop}(n:Names C es is) (f:vs.length=is.length) (h:K (nf (is.zip vs) loc)):TgOK P C (.Tuple es k pos) (.tup vs) loc K:=λA E env ι H s u i c e r=>by
 refine eX (r) λt m b j l=>?_;clear r;revert l;intro r;subst b;refine PyProof.Rows.assign_Tuple_tuple i j.isTup ?_ (n.each env).2 λh' g=>?_
 ·rw[(n.each env).1,n.length,aH,r.length,f]
 ·have k:∀a o,s.heap.get? a=some o->h'.get? a=some o:=λa o d=>g a o (bM (ci d)) d;have p:Post P.B ι s ι H { s with heap:=h',toks:=s.toks }:=Post.keep c k;exact F6 n f (p.toS (S:=own C env)) (e.step c p) (p.vrs c r) h
noncomputable def nW (e:Expr):Bool:=e.ctorIdx == Expr.ctorIdx (.Tuple [] 0 default)
structure Itr (P:PEnv) (tt:Bool) (I:Addr) (wr:List Addr) (items:List AV) (Cnd:Hp->Prop) (It:Nat->List Addr->Heap->Prop) (Mid:Nat->Value->List Addr->Heap->Prop):Prop where
 mono:∀k ι ι' S h h',It k ι h->Kept S h h'->kD S h->ι<+:ι'->(∀a∈wr,a∉S)->It k ι' h'
 there:∀k ι h,It k ι h->∀a∈wr,∃o,h.get? a=some o/\∀vs n,o.data≠.seq vs n
 thereM:∀k v ι h,Mid k v ι h->∀a∈wr,∃o,h.get? a=some o/\∀vs n,o.data≠.seq vs n
 next:∀A E ι H s k x (Q:Option Value->Shared->Prop),A.handled=none->HR P.B ι H s.heap->Cnd H->It k ι s.heap->items[k]?=some x ->
  (∀v h' tk,VR P.B h' ι x v->Mid k v ι h'->(∀b o,b∉wr->s.heap.get? b=some o->h'.get? b=some o)->Q (some v) { s with heap:=h',toks:=tk })->aP (model P.prog P.w) A (pyNext (.ref I)) Q E s
 go:∀tgt A E ι s k v (Q:Unit->Shared->Prop),(tt=true->nW tgt=true)->Mid k v ι s.heap->(∀h',It (k+1) ι h'->(∀b o,b∉wr->s.heap.get? b=some o->h'.get? b=some o)->Q () { s with heap:=h' }) ->
  aP (model P.prog P.w) A (letOwnedTupleGo tgt (.ref I) v) Q E s
 stop:∀A E ι H s (Q:Option Value->Shared->Prop),A.handled=none->HR P.B ι H s.heap->Cnd H->It items.length ι s.heap ->
  (∀h' tk,(∀b o,b∉wr->s.heap.get? b=some o->h'.get? b=some o)->Q none { s with heap:=h',toks:=tk })->aP (model P.prog P.w) A (pyNext (.ref I)) Q E s
 self:∀A E ι s k (Q:Value->Shared->Prop),It k ι s.heap->Q (.ref I) s->aP (model P.prog P.w) A (pyIter (.ref I)) Q E s
theorem Itr.any {tt:Bool}{I:Addr}{wr:List Addr}{items:List AV}{Cnd:Hp->Prop}{b:Nat->List Addr->Heap->Prop}{a:Nat->Value->List Addr->Heap->Prop}(h:Itr P false I wr items Cnd b a):Itr P tt I wr items Cnd b a :=
 ⟨h.mono,h.there,h.thereM,h.next,λtgt A E ι s k v Q _=>h.go tgt A E ι s k v Q (λe=>by cases e),h.stop,h.self⟩
def ItOK (P:PEnv) (x:AV) (H:Hp) (items:List AV) (Cnd:Hp->Prop):Prop :=
 ∀A E ι s v (Q:Value->Shared->Prop),HR P.B ι H s.heap->VR P.B s.heap ι x v ->
  (∀I wr It Mid h' tk,Itr P false I wr items Cnd It Mid->It 0 ι h'->(∀a∈wr,s.heap.get? a=none)->(∀b o,s.heap.get? b=some o->h'.get? b=some o)->Q (.ref I) { s with heap:=h',toks:=tk }) ->
  aP (model P.prog P.w) A (pyIter v) Q E s
theorem Eo {M:Model}{tgt:Expr}{I:Addr}{v:Value}{o:Obj}{n:String}{Q:Unit->Shared->Prop}(c:s.heap.get? I=some o) (a:o.cls=.type n)
  (b:["enumerate", "zip", "dict_itemiterator", "dict_reverseitemiterator", "odict_iterator", "itertools.zip_longest", "itertools.pairwise"].contains n=false) (h:Q () s):aP M A (letOwnedTupleGo tgt (.ref I) v) Q E s:=by
 cases tgt<;>try exact aJ h
 all_goals
  cases v<;>try exact aJ h
  refine ad (wpAny_load c ?_);rw[a];cases o.data with
  | fields vs=>simp only[b,cj,jN,if_false];exact aJ h
  | _=>exact aJ h
structure One (P:PEnv) (I:Addr) (items:List AV) (Cnd:Hp->Prop) (At:Nat->Obj->Prop) (Pre:List Addr->Heap->Prop) (T:String):Prop where
 dat:∀k o,At k o->o.cls=.type T/\(∀vs n,o.data≠.seq vs n)/\∀es n,o.data≠.dict es n
 go:["enumerate", "zip", "dict_itemiterator", "dict_reverseitemiterator", "odict_iterator", "itertools.zip_longest", "itertools.pairwise"].contains T=false
 pre:∀ι ι' S h h',Pre ι h->Kept S h h'->kD S h->ι<+:ι'->Pre ι' h'
 next:∀A E ι H s k x (Q:Option Value->Shared->Prop),A.handled=none->HR P.B ι H s.heap->Cnd H->Pre ι s.heap->(∃o,s.heap.get? I=some o/\At k o)->items[k]?=some x ->
  (∀v h' tk,VR P.B s.heap ι x v->(∃o,h'.get? I=some o/\At (k+1) o)->fh I s.heap h'->Q (some v) { s with heap:=h',toks:=tk })->aP (model P.prog P.w) A (pyNext (.ref I)) Q E s
 stop:∀A E ι H s (Q:Option Value->Shared->Prop),A.handled=none->HR P.B ι H s.heap->Cnd H->Pre ι s.heap->(∃o,s.heap.get? I=some o/\At items.length o) ->
  (∀h' tk,iA I s.heap h'->Q none { s with heap:=h',toks:=tk })->aP (model P.prog P.w) A (pyNext (.ref I)) Q E s
 self:∀A E s k (Q:Value->Shared->Prop),(∃o,s.heap.get? I=some o/\At k o)->Q (.ref I) s->aP (model P.prog P.w) A (pyIter (.ref I)) Q E s
theorem One.itr {I:Addr}{items:List AV}{Cnd:Hp->Prop}{At:Nat->Obj->Prop}{Pre:List Addr->Heap->Prop}{T:String}(h:One P I items Cnd At Pre T) :
  Itr P false I [I] items Cnd (λk ι h=>Pre ι h/\∃o,h.get? I=some o/\At k o) (λk _ ι h=>Pre ι h/\∃o,h.get? I=some o/\At (k+1) o):=by
 have p:∀{h₁:Heap}{k:Nat},(∃o,h₁.get? I=some o/\At k o)->kD [I] h₁:=λq=>oQ (Z:=λb=>∀vs,¬ PyProof.Rows.IsTup _ b vs) λvs t =>
  aK q λo e z=>eT t λo' u _ n=>n.elim λn d=>(h.dat _ _ z).2.1 _ _ (yj (e.symm.trans u)▸d)
 have s:∀{h₁:Heap}{k:Nat},(∃o,h₁.get? I=some o/\At k o)->∀a∈[I],∃o,h₁.get? a=some o/\∀vs n,o.data≠.seq vs n:=λq=>oQ (Z:=λb=>∃o,_/\_) (aK q λo e z=>⟨o,e,(h.dat _ _ z).2.1⟩);have ex:∀{h₁ h₂:Heap},iA I h₁ h₂->∀b o,b∉[I]->h₁.get? b=some o->h₂.get? b=some o:=λx b o y w=>x b o (λz=>y (z▸yn rfl)) w;exact⟨λk ι ι' S h₁ h₂ q f D F B=>⟨h.pre _ _ _ _ _ q.1 f D F,aK q.2 λo e z=>⟨o,f.exact e (B _ (yn rfl)) (h.dat _ _ z).2.2,z⟩⟩,λk ι h₁ q=>s q.2,λk v ι h₁ q=>s q.2,
  λA E ι1 g s1 k x Q j l i q C c=>h.next A E ι1 g s1 k x Q j l i q.1 q.2 C λv h' m H G r =>
   have f:=Kept.of_keeps (ex r.extBut)
   c v h' m (VR.mono f (p q.2) (af _) _ _ H) ⟨h.pre _ _ _ _ _ q.1 f (p q.2) (af _),G⟩ (ex r.extBut),
  λtgt A E ι1 s1 k v Q _ q c=>aK q.2 λo e z=>Eo e (h.dat _ _ z).1 h.go (c s1.heap q λ_ _ _ e=>e),
  λA E ι1 g s1 Q j l i q c=>h.stop A E ι1 g s1 Q j l i q.1 q.2 λh' m x=>c h' m (ex x),
  λA E ι1 s1 k Q q c=>h.self A E s1 k Q q.2 c⟩
theorem One.new {tt:Bool}{items:List AV}{Cnd:Hp->Prop}{At:Nat->Obj->Prop}{Pre:List Addr->Heap->Prop}{T:String}{o:Obj}{Q:Value->Shared->Prop}
  (h:∀I wr g c h' j,Itr P tt I wr items Cnd g c->g 0 ι h'->(∀a∈wr,s.heap.get? a=none)->(∀b o,s.heap.get? b=some o->h'.get? b=some o)->Q (.ref I) { s with heap:=h',toks:=j })
  (one:One P s.heap.objs.size items Cnd At Pre T) (d:At 0 o) (i:o.isFreed=false) (f:Pre ι s.heap):Q (.ref s.heap.objs.size) { s with heap:=s.heap.push o } :=
 have k:∀b o',s.heap.get? b=some o'->(s.heap.push o).get? b=some o':=λb o' e=>ay _ e
 h _ _ _ _ _ s.toks one.itr.any ⟨one.pre _ _ _ _ _ f (oH k) n_ (af _),o,ba _ i,d⟩ (oQ (Z:=λb=>s.heap.get? b=none) (oR _)) k
theorem pS {o:Obj}{vs:Array Value}(h:o.data=.fields vs):(∀vs n,o.data≠.seq vs n)/\∀es n,o.data≠.dict es n:=⟨(λ_ _ z=>nomatch h.symm.trans z),λ_ _ z=>nomatch h.symm.trans z⟩
theorem sm {l:List AV}(h:vs.length=l.length):vs.toArray[l.length]?=none:=by rw[mF];exact eJ.mpr (bf h)
theorem C3 {l:List AV}(hi:H[i]?=some (.list l)):ItOK P (.ref i) H l (λH'=>H'[i]?=some (.list l)):=λA E ι s v Q n r h=>by
 refine aK r λa F g=>?_;subst F;have b:∀{ι H h},HR P.B ι H h->H[i]?=some (.list l)->ι[i]?=some a->∃vs,h.PlainList a (aW vs)/\VRs P.B h ι l vs:=λn hi g=>aK (n.objs i _ hi) λM j o=>yj (j.symm.trans g)▸o;refine aK (b n hi g) λvs pl N=>kZ pl.isList ?_;refine One.new (P:=P) (T := "list_iterator") (At:=λk o=>o.cls=.type "list_iterator" /\ o.data=.fields #[.ref a,.int k 0]) (Pre:=λι _=>ι[i]?=some a) h ⟨λk o z=>⟨z.1,pS z.2⟩,by decide,λι ι' S h h' q _ _ J=>ou J q,?_,?_,λA E s k Q q f=>wpAny_pyIter_listiter q f⟩ ⟨rfl,rfl⟩ rfl g
 ·intro A E ι1 D s1 k x Q C c m t w I f;refine aK (b c m t) λy d e=>aK (e.get I) λu G K=>?_;exact wpAny_pyNext_list_item w d.isList (x:=u) (by simpa using G) λh' p L=>f u h' s1.toks K p L
 ·intro A E ι1 D s1 Q C c m t w f;refine aK (b c m t) λy d e=>?_;exact wpAny_pyNext_list_end C w d.isList (sm e.length) λh' x=>f h' s1.toks x
theorem BN {l:List AV}:ItOK P (.fro l) H l (λ_=>True):=λA E ι s v Q w r h=>by
 refine eX r λa vs p n J=>?_;subst p;have b:∀h',P.B.StaysIn h'->h'.IsList a vs.toArray:=λh' q=>n.at λo e=>q a o e;refine kZ (b _ w.base) ?_;refine One.new (P:=P) (T := "list_iterator") (At:=λk o=>o.cls=.type "list_iterator" /\ o.data=.fields #[.ref a,.int k 0]) (Pre:=λι h=>VRs P.B h ι l vs) h ⟨λk o z=>⟨z.1,pS z.2⟩,by decide,λι ι' S h h' q D F G=>VRs.mono D F G _ _ q,?_,?_,λA E s k Q q d=>wpAny_pyIter_listiter q d⟩ ⟨rfl,rfl⟩ rfl J
 ·intro A E ι1 m s1 k x Q j c t g i C d;refine aK (g.get C) λu y I=>?_;exact wpAny_pyNext_list_item i (b _ c.base) (x:=u) (by simpa using y) λh' f K=>d u h' s1.toks I f K
 ·intro A E ι1 m s1 Q j c t g i d;exact wpAny_pyNext_list_end j i (b _ c.base) (sm g.length) λh' x=>d h' s1.toks x
theorem BP {l:List AV}:ItOK P (.tup l) H l (λ_=>True):=λA E ι s v Q I r h=>by
 refine eX r λa vs p m F=>?_;subst p;refine kG m.isTup ?_;refine One.new (P:=P) (T := "tuple_iterator") (At:=λk o=>o.cls=.type "tuple_iterator" /\ o.data=.fields #[.ref a,.int k 0]) (Pre:=λι h=>PTup h a vs.toArray/\VRs P.B h ι l vs) h ⟨λk o z=>⟨z.1,pS z.2⟩,by decide,λι ι' S h h' q i j C=>⟨u3 i j q.1,VRs.mono i j C _ _ q.2⟩,?_,?_,λA E s k Q q b=>wpAny_pyIter_tupleiter q b⟩ ⟨rfl,rfl⟩ rfl ⟨m,F⟩
 ·intro A E ι1 n s1 k x Q g d t c f y b;refine aK (c.2.get y) λu w D=>?_;exact wpAny_pyNext_tuple_item f c.1.isTup (x:=u) (by simpa using w) λh' e G=>b u h' s1.toks D e G
 ·intro A E ι1 n s1 Q g d t c f b;exact wpAny_pyNext_tuple_end g f c.1.isTup (sm c.2.length) λh' x=>b h' s1.toks x
def rT (P:PEnv) (tt:Bool) (A:Around) (ι₁:List Addr) (items:List AV) (Cnd:Hp->Prop) (v:Value) (s₀ s₁:Shared):Prop :=
 ∀E (Q:Value->Shared->Prop),(∀I wr It Mid h' tk,Itr P tt I wr items Cnd It Mid->It 0 ι₁ h'->(∀a∈wr,s₀.heap.get? a=none)->(∀b o,s₀.heap.get? b=some o->h'.get? b=some o)->Q (.ref I) { s₀ with heap:=h',toks:=tk }) ->
   aP (model P.prog P.w) A (pyIter v) Q E s₁
inductive ItG (P:PEnv) (tt:Bool) (A:Around) (ι:List Addr) (s:Shared) (K:List AV->(Hp->Prop)->Hp->Prop) (v:Value) (s₁:Shared):Prop where
 | mk (ι₁:List Addr) (H₁:Hp) (items:List AV) (Cnd:Hp->Prop) (s₀:Shared) (p:Post P.B ι s ι₁ H₁ s₀) (tl:rT P tt A ι₁ items Cnd v s₀ s₁) (k:K items Cnd H₁)
theorem gi {P:PEnv}{tt:Bool}{t:Sem Value}{K:List AV->(Hp->Prop)->Hp->Prop}{R:Value->Shared->Prop}(h:aP (model P.prog P.w) A t (ItG P tt A ι s K) E s0)
  (k:∀v i ι1 f items Cnd s1,Post P.B ι s ι1 f s1->rT P tt A ι1 items Cnd v s1 i->K items Cnd f->R v i):aP (model P.prog P.w) A t R E s0 :=
 aD h (λv s1 g=>by cases g with|mk a b c d e p r q=>exact k v s1 a b c d e p r q) λ_ _ x=>x
def ItEv (P:PEnv) (tt:Bool) (C:Ctx) (d:Nat) (it:Expr) (loc:Loc) (H:Hp) (K:List AV->(Hp->Prop)->Hp->Prop) (X:XP):Prop :=
 ∀A E env ι s,W P.B A d ι H s->EnvR P.B C env ι s.heap loc->Acc P A X ι s E->aP (model P.prog P.w) A (eval it env) (ItG P tt A ι s K) E s
theorem xr {tt:Bool}{it:Expr}{K:List AV->(Hp->Prop)->Hp->Prop}{X:XP}(h:EvOK P C d it loc H (λx b=>∃items Cnd,ItOK P x b items Cnd/\K items Cnd b) X):ItEv P tt C d it loc H K X:=λA E env ι s w e a =>
 gv (h A E env ι s w e a) λv s1 ι1 b x p1 l g=>kB g λitems Cnd j k =>
  ⟨ι1,b,items,Cnd,s1,p1,λE Q i=>j A E ι1 s1 v Q p1.hr l λI wr f c h' m itr=>i I wr f c h' m itr.any,k⟩
theorem ItEv.mono {tt:Bool}{it:Expr}{K b:List AV->(Hp->Prop)->Hp->Prop}{X:XP}(h:ItEv P tt C d it loc H K X) (k:∀i c H,K i c H->b i c H):ItEv P tt C d it loc H b X:=λA E env ι s w e a =>
 gi (h A E env ι s w e a) λv s1 ι1 f items Cnd s0 p1 g q=>⟨ι1,f,items,Cnd,s0,p1,g,k _ _ _ q⟩
theorem ntw {wr:List Addr}(q:∀a∈wr,∃o,h.get? a=some o/\∀vs n,o.data≠.seq vs n):kD wr h:=λa f vs t=>by refine aK (q a f) λo e c=>?_;exact eT t λo' b _ q=>q.elim λn d=>c _ _ (yj (e.symm.trans b)▸d)
theorem EnvR.off {C:Ctx}{T:List Addr}{loc:Loc}(d:EnvR B C env ι h loc) (e:∀b o,b∉T->h.get? b=some o->h'.get? b=some o) (y:kD T h) (k:env.locals∉T)
  (i:∀x c,some x∈C.vars->env.cells.lookup x=some c->c∉T):EnvR B C env ι h' loc:=by
 have f:∀a,a∉T->∀o,h.get? a=some o->∃o',h'.get? a=some o'/\o'.data=o.data:=λa u o s=>⟨o,e a o u s,rfl⟩;refine⟨d.kind,d.names,d.glob,d.blt,d.ns.elim λm n=>⟨m,Ns.of_data n (f _ k)⟩,d.offL,d.newL,d.offC,λx c p r=>(d.isC x c p r).elim λg q=>⟨g,Cell.of_data q (f c (i x c p r))⟩,d.apart,d.len,λj x l=>?_⟩;refine aK (d.vars j x l) λg w hv=>⟨g,?_,λdd v=>aK (hv dd v) λA t z=>⟨A,t,VR.mono (Kept.of_keeps e) y (af _) _ _ z⟩⟩;exact w.imp (λq=>⟨q.1,q.2.elim λm n=>⟨m,Ns.of_data n.1 (f _ k),n.2⟩⟩) λq=>⟨q.1,q.2.elim λc n=>⟨c,n.1,Cell.of_data n.2 (f c (i x c (yc l) n.1))⟩⟩
theorem qk {c:Hp}{e:Shared}{t':Nat}{wr:List Addr}(f:∀a∈wr,s1.heap.get? a=none) (q:PostS P.B (own C env) ι1 s1 ι2 c e) (j:HR P.B ι2 c h') (d:∀b o,b∉wr->e.heap.get? b=some o->h'.get? b=some o) :
  PostS P.B (own C env) ι1 s1 ι2 c { e with heap:=h',toks:=t' }:=by
 refine⟨q.pre,j,λa o g i=>?_,q.new,?_⟩
 ·exact aK (q.kept a o g i) λl h k=>⟨l,d a _ (λm=>jO (f a m) g) h,k⟩
 ·exact q.same
inductive ForI (P:PEnv) (C:Ctx) (env:Env) (ι₁:List Addr) (s₁:Shared) (wr:List Addr) (It:Nat->List Addr->Heap->Prop) (m:Nat) (J:Nat->Loc->Hp->Prop) (n:Nat) (s':Shared):Prop where
 | mk (k:Nat) (ι':List Addr) (H':Hp) (loc':Loc) (hn:n=m+1-k) (hk:k<=m) (wrO:∀a∈wr,a∉own C env++ι') (p:PostS P.B (own C env) ι₁ s₁ ι' H' s') (e:EnvR P.B C env ι' s'.heap loc') (j:J k loc' H') (it:It k ι' s'.heap)
theorem ForI.el {wr:List Addr}{e:Nat->List Addr->Heap->Prop}{J:Nat->Loc->Hp->Prop}{n:Nat}{G:Prop}(h:ForI P C env ι1 s1 wr e m J n s')
  (g:∀k ι' H' d,n=m+1-k->k<=m->(∀a∈wr,a∉own C env++ι')->PostS P.B (own C env) ι1 s1 ι' H' s'->EnvR P.B C env ι' s'.heap d->J k d H'->e k ι' s'.heap->G):G:=by
 cases h with|mk k a b c f i j l o p q=>exact g k a b c f i j l o p q
theorem uu {n:Nat}(h:n=m+1-k) (a:k<m):m+1-(k+1)<n:=h▸jC (gu a) (fO k)
def Bb (J:Nat->Loc->Hp->Prop) (Q:MFlow->Loc->Hp->Prop) (k:Nat) (fl:MFlow) (l'':Loc) (H'':Hp):Prop:=match fl with
    | .next=>J (k+1) l'' H''
    | .cont=>J (k+1) l'' H''
    | .brk=>Q .next l'' H''
    | .ret v=>Q (.ret v) l'' H''
    | .exc _=>False
theorem zh {tt:Bool}{tgt it:Expr}{body:List Stmt}{pos:Pos}{Q:MFlow->Loc->Hp->Prop}
  (ht:tt=true->nW tgt=true) (h:ItEv P tt C d it loc H (λitems Cnd H1=>∃J:Nat->Loc->Hp->Prop,J 0 loc H1/\∀k loc H,J k loc H->Cnd H /\
   (∀y,items[k]?=some y->TgOK P C tgt y loc (λl'=>nV P C d body l' H (Bb J Q k))) /\
   (k=items.length->Q .next loc H)) XF)
  (hs:∀env x,foldedSetIterable it env x=pure x):ExOK P C d (.For tgt it body [] pos) loc H Q:=λA E env ι s w e=>by
 refine wpAny_For (gi (h A E env ι s w e Acc.no) λv s0 ι1 H1 items Cnd s1 p1 io g=>aK g λJ j0 aa=>?_) (hs env);clear g;have w1:=w.step p1;have e1:=e.step w.hr p1;refine io E _ λI wr It ag h₂ tk itr ac b k2=>?_;have p2:Post P.B ι1 s1 ι1 H1 { s1 with heap:=h₂,toks:=tk }:=Post.keep w1.hr k2;have hL:env.locals∉wr:=λm=>e1.ns.elim λ_ q=>nS q λo _ _ G _=>jO (b _ m) G;have hC:∀x c,some x∈C.vars->env.cells.lookup x=some c->c∉wr:=λx c hm hc m=>(e1.isC x c hm hc).elim λov q=>aK q λo G _=>jO (b c m) G;have V:∀a∈wr,P.B.get? a=none:=λa D=>w1.hr.noB (b a D);refine codeAny_forLoop_any (ForI P C env ι1 s1 wr It items.length J) (λn s' hI=>gRE λR F kR=>hI.el λk ι' H' N hn hk M p e' hj T=>?_) (items.length+1)
  ⟨0,ι1,H1,loc,rfl,cX _,λa D m=>?_,p2.toS,e1.step w1.hr p2,j0,ac⟩
 rotate_left
 ·rcases yd m with m|m
  ·exact aK (e1.isOwn a m) λo G _=>jO (b a D) G
  ·exact(w1.hr.mem m).elim λo G=>jO (b a D) G
 clear hI;refine fT (aa k N H' hj) λhc ab a1=>?_;have Y:=w1.stepS e1 p e';have l:∀a∈wr,a∉ι':=λa D m=>M a D (yp (.inr m));have K:=ntw (itr.there k ι' _ T);cases hx:items[k]? with
 | none =>
  have a2:k=items.length:=cI hk (eJ.mp hx);refine itr.stop A _ ι' H' s' _ Y.room.handled Y.hr hc (a2▸T) λh' tk O=>kR _ _ ?_;have a0:=e'.off O K hL hC;exact gg ⟨ι',H',N,.next,PostS.trans p1.toS (qk b p (Y.hr.off O K l V) O) a0.offOwn,a0,rfl,a1 a2⟩
 | some y =>
  have a3:k<items.length:=(ym hx).1;refine itr.next A _ ι' H' s' k y _ Y.room.handled Y.hr hc T hx λv h3 L rv a8 t=>kR _ _ (gRE λR1 F1 a6=>?_);have a4:=Y.hr.off t K l V;have p3:=qk (t':=L) b p a4 t;have W:=ntw (itr.thereM k v ι' _ a8);refine itr.go tgt A _ ι' { s' with heap:=h3,toks:=L } k v _ ht a8 λh4 ad i=>a6 _ _ (gRE λR2 F2 a7=>?_);have U:=a4.off i W l V;have p4:=qk (t':=L) b p3 U i;have e4:=(e'.off t K hL hC).off i W hL hC;refine aD (ab y hx A _ env ι' H' { s' with heap:=h4,toks:=L } v Y.room.handled U e4 (VR.mono (S:=wr) (Kept.of_keeps i) W (af _) _ _ rv)) (λu s5 g=>a7 u s5 (g.el λae p5 e5 g=>?_)) λ_ _ x=>x;clear kR a6 a7;have a9:=p4.trans p5 e5.offOwn;have a5:It (k+1) ι' s5.heap:=itr.mono _ _ _ _ _ _ ad p5.kept (e4.noTup U) (af _) M;refine gs (g A _ env ι' s5 (w1.stepS e1 a9 e5) e5) (λf s6 Z H6 j fl p6 e6 r6 g=>?_);have X:=a9.trans p6 e6.offOwn;have I6:J (k+1) j H6->∃m,m<n/\ForI P C env ι1 s1 wr It items.length J m s6:=λg=>⟨items.length+1-(k+1),uu hn a3,k+1,Z,H6,j,rfl,a3,λa D m=>?_,X,e6,g,
   itr.mono _ _ _ _ _ _ a5 p6.kept (e5.noTup p5.hr) p6.pre M⟩
  ·cases fl with
   | next=>cases r6;exact I6 g
   | cont=>cases r6;exact I6 g
   | brk=>cases r6;exact⟨Z,H6,j,.next,PostS.trans p1.toS X e6.offOwn,e6,rfl,g⟩
   | ret v=>exact aK r6 λu hu r=>by subst hu;exact⟨Z,H6,j,.ret v,PostS.trans p1.toS X e6.offOwn,e6,⟨u,rfl,r⟩,g⟩
   | exc c=>exact r6.elim
  ·rcases yd m with m|m
   ·exact M a D (yp (.inl m))
   ·exact(p6.new a m).elim (l a D) λz=>aK (itr.there _ _ _ a5 a D) λo G _=>jO z G
end Mine
namespace Mine
open PySem
def g6 (P:PEnv) (d:Nat) (x:Str) (args:List AV) (H:Hp) (Q:AV->Hp->Prop) (X:XP):Prop :=
 ∀A ι s vs fa (R:Result->Shared->Prop),P.fn x=some (.ref fa)->W P.B A d ι H s->VRs P.B s.heap ι args vs->(∀v s',Gives P.B ι s Q v s'->R (.ok (.ret v)) s')->Acc P A X ι s (λe s'=>R (.error e) s') ->
  codeAny (model P.prog P.w) A (.call (.ref fa) ⟨vs,[]⟩) R s
theorem g6.mono {P:PEnv}{d:Nat}{x:Str}{b:List AV}{H:Hp}{Q c:AV->Hp->Prop}{X:XP}(h:g6 P d x b H Q X) (q:∀a H',Q a H'->c a H'):g6 P d x b H c X :=
 λA ι s vs f R e w r i j=>h A ι s vs f R e w r (λv s' g=>i v s' (g.mono q)) j
theorem g6.x {P:PEnv}{d:Nat}{x:Str}{a:List AV}{H:Hp}{Q:AV->Hp->Prop}{X:XP}(h:g6 P d x a H Q XF):g6 P d x a H Q X :=
 λA ι s vs b R e w r c f=>h A ι s vs b R e w r c Acc.no
structure FnAt (P:PEnv) (x:Str) (C:Ctx) (params:List Str) (body:List Stmt):Prop where
 ex:∃fa o fd,P.fn x=some (.ref fa)/\P.B.get? fa=some o/\o.data=.func fd/\fd.body=.stmts body/\fd.scope.names=C.names/\fd.scope.kind=.function/\fd.scope.isCoroutine=false/\fd.scope.isGenerator=false /\
  fd.closure=[]/\fd.globals=dA/\fd.builtins=builtinsNs/\P.B.CodeRec fd.code fd.qualname/\∀vals:List Value,vals.length=params.length->bindArgs fd ⟨vals,[]⟩=pure (params.zip vals)
noncomputable def Ctx.good (C:Ctx) (params:List Str):Bool :=
 (C.vars.all λo=>match o with|some x=>C.names.lookup x == some .local||C.names.lookup x == some .cell|none=>false)&&decide (C.vars.Nodup)&&decide ((params.map some).isPrefixOf C.vars=true)&&decide (C.ro=0)
theorem Fp {k:Str->Option NameKind}{x:Str}{b:List (Str×Value)}:∀{m:Str->Option Value},x∉b.map (·.1)->bindL k b m x=m x:=by
 induction b with
 | nil=>exact λ_=>rfl
 | cons p r ih =>
  intro m h;obtain⟨n,v⟩:=p;rw[aF,cA,not_or] at h;refine(ih h.2).trans ?_;split
  ·exact if_neg h.1
  ·rfl
theorem Fo {k:Str->Option NameKind}{x:Str}{b:List (Str×Value)}:∀{m:Str->Option Value},x∉b.map (·.1)->bindC k b m x=m x:=by
 induction b with
 | nil=>exact λ_=>rfl
 | cons p r ih =>
  intro m h;obtain⟨n,v⟩:=p;rw[aF,cA,not_or] at h;refine(ih h.2).trans ?_;split
  ·rfl
  ·exact if_neg h.1
theorem E8 {ps:List Str}{x:Str}(h:x∉ps):x∉(ps.zip vs).map (·.1):=λm=>by refine aK (yh m) λy a e=>h ?_;rw[<-e];exact(List.of_mem_zip a).1
theorem x9 {F:List (Str×Value)->(Str->Option Value)->Str->Option Value}{x:Str}(st:∀{p v r m},∃d,F ((p,v)::r) m=F r d) (a:∀{v r m},x∉r.map (·.1)->F ((x,v)::r) m x=some v){ps:List Str}:∀{vs:List Value}{m:Str->Option Value}{i:Nat}{v:Value},ps.Nodup->ps[i]?=some x->vs[i]?=some v->F (ps.zip vs) m x=some v:=by
 induction ps with
 | nil=>intro vs m i v _ h _;cases i<;>cases h
 | cons p ps ih =>
  intro vs m i v nd c b;have nd:=fo.mp nd;cases vs with
  | nil=>cases i<;>cases b
  | cons u vs=>cases i with
   | zero =>
    cases yj c;cases yj b;exact a (E8 nd.1)
   | succ i=>exact cG (st (p:=p) (v:=u) (r:=ps.zip vs) (m:=m)) λd e=>(congrFun e x).trans (ih nd.2 c b)
theorem sE {k:Str->Option NameKind}{x:Str}(c:k x=some .local){ps:List Str}{m:Str->Option Value}{v:Value}(nd:ps.Nodup) (a:ps[i]?=some x) (b:vs[i]?=some v):bindL k (ps.zip vs) m x=some v :=
 x9 (F:=bindL k) ⟨_,rfl⟩ (λh=>(Fp h).trans (by rw[if_pos c];exact if_pos rfl)) nd a b
theorem D8 {k:Str->Option NameKind}{x:Str}(c:k x=some .cell){ps:List Str}{m:Str->Option Value}{v:Value}(nd:ps.Nodup) (a:ps[i]?=some x) (b:vs[i]?=some v):bindC k (ps.zip vs) m x=some v :=
 x9 (F:=bindC k) ⟨_,rfl⟩ (λh=>(Fo h).trans (by rw[if_neg (by rw[c];decide)];exact if_pos rfl)) nd a b
theorem zF {α:Type}{x:Str}{c:α}{l:List (Str×α)}(h:(x,c)∈l):∃b,l.lookup x=some b:=by
 induction l with
 | nil=>cases h
 | cons p r ih =>
  rw[kx];cases a:x == p.1 with
  | true=>exact⟨p.2,rfl⟩
  | false =>
   refine ih ((yg h).resolve_left λe=>?_);rw[<-e,beq_self_eq_true] at a;cases a
theorem GX {x:Str}{names:List (Str×NameKind)}:∀{n:Nat}{acc:List (Str×Addr)},(x,NameKind.cell)∈names\/(∃c,(x,c)∈acc)->∃c,(x,c)∈cellsFrom n names acc:=by
 induction names with
 | nil=>exact λh=>h.elim (λq=>nomatch q) id
 | cons p r ih =>
  intro n acc h;obtain⟨y,k⟩:=p
  by_cases a:k=.cell
  ·have e:cellsFrom n ((y,k)::r) acc=cellsFrom (n+1) r ((y,n)::acc):=by rw[a];rfl
   rw[e];exact ih (h.elim (λh=>(yg h).elim (λe=>.inr ⟨n,(iq e).1▸aR ..⟩) .inl) λh=>cG h λc h=>.inr ⟨c,yi _ h⟩)
  ·have e:cellsFrom n ((y,k)::r) acc=cellsFrom n r acc:=by cases k<;>first|rfl|exact absurd rfl a
   rw[e];exact ih (h.imp (λh=>(yg h).resolve_left λe=>a (iq e).2.symm) id)
theorem G0 {x:Str}{k:NameKind}:∀{l:List (Str×NameKind)},l.lookup x=some k->(x,k)∈l:=λh=>mem_of_lookup h
variable {P:PEnv}{C:Ctx}{d:Nat}{loc:Loc}{H:Hp}{X:XP}
noncomputable def start (C:Ctx) (args:List AV):Loc:=args.map some++am (C.vars.length-args.length) none
def i6 (Q:AV->Hp->Prop):MFlow->Loc->Hp->Prop
 | .ret v,_,H=>Q v H
 | .next,_,H=>Q .none H
 | _,_,_=>False
def vV (P:PEnv) (l:List Env) (S ι:List Addr) (s:Shared) (ι':List Addr) (H':Hp) (s':Shared) (e:Value) (c:Str):Prop :=
 ∃ea base D,e=.ref ea/\P.mg c=some (.ref D)/\XLeft P.B l S ι s ι' H' base s'/\((∃h args,base.StaysIn h/\h.FunFrames base l/\Heap.MadeExcOf h s'.heap ea (.ref D) args)\/∃a0 L en r,l=en::r/\en.frame=some L/\jM base l ea (.ref D) a0 L s'.heap)
def tn (A:Around) (env:Env):Prop:=env.frame=some env.locals/\∃l,A.frames=some (env::l)
def XAcc (P:PEnv) (C:Ctx) (A:Around) (env:Env) (ι:List Addr) (s:Shared) (Q:MFlow->Loc->Hp->Prop) (E:Value->Shared->Prop):Prop :=
 ∀l,A.frames=some l->∀e s' ι' H' loc' c,(rK P l (own C env) ι s ι' H' s' e c\/vV P l (own C env) ι s ι' H' s' e c)->EnvR P.B C env ι' s'.heap loc'->Q (.exc c) loc' H'->E e s'
def ExX (P:PEnv) (C:Ctx) (d:Nat) (st:Stmt) (loc:Loc) (H:Hp) (Q:MFlow->Loc->Hp->Prop):Prop :=
 ∀A E env ι s,W P.B A d ι H s->EnvR P.B C env ι s.heap loc->tn A env->XAcc P C A env ι s Q E->aP (model P.prog P.w) A (exec st env) (GivesS P.B C env ι s Q) E s
def ExsX (P:PEnv) (C:Ctx) (d:Nat) (sts:List Stmt) (loc:Loc) (H:Hp) (Q:MFlow->Loc->Hp->Prop):Prop :=
 ∀A E env ι s,W P.B A d ι H s->EnvR P.B C env ι s.heap loc->tn A env->XAcc P C A env ι s Q E->aP (model P.prog P.w) A (execs sts env) (GivesS P.B C env ι s Q) E s
theorem ExOK.x {st:Stmt}{Q:MFlow->Loc->Hp->Prop}(h:ExOK P C d st loc H Q):ExX P C d st loc H Q:=λA E env ι s w e _ _=>h A E env ι s w e
theorem nV.x {sts:List Stmt}{Q:MFlow->Loc->Hp->Prop}(h:nV P C d sts loc H Q):ExsX P C d sts loc H Q:=λA E env ι s w e _ _=>h A E env ι s w e
def endX (Q:AV->Hp->Prop) (X:XP):MFlow->Loc->Hp->Prop
 | .ret v,_,H=>Q v H
 | .next,_,H=>Q .none H
 | .exc c,_,H=>X c H
 | _,_,_=>False
theorem XLeft.out {l:List Env}{H':Hp}{base:Heap}(x:XLeft B (env::l) S ι s1 ι' H' base s') (u:env.frame=some env.locals)
  (keep:∀a o,s.heap.get? a=some o->s1.heap.get? a=some o) (A:∀a∈S,s.heap.get? a=none) (w:s.heap.get? env.locals=none) (p:s1.gens=s.gens/\s1.os=s.os)
  (v:∀a∈fAs l,∀o,s.heap.get? a=some o->∃es n,o.data=.dict es n) (st:base.StaysIn h') (up:s'.heap.UpToSlots h'):XLeft B l [] ι s ι' H' base { s' with heap:=h' }:=by
 have off:∀a o,s.heap.get? a=some o->a∉ι->a∉S++ι:=λa o e d m=>(yd m).elim (λz=>by rw[A a z] at e;cases e) d;have f:∀a o,s.heap.get? a=some o->a∉fAs l->a∉fAs (env::l):=λa o e d m=>by
  unfold fAs at m;rw[jy,u] at m;rcases yg m with z|z
  ·rw[z,w] at e;cases e
  ·exact d z
 refine⟨x.pre,x.hr,st,λa o e d=>?_,λa o e d h=>?_,λa C=>?_,?_⟩
 ·refine aK (x.kept a o (keep a o e) (off a o e d)) λr i D=>?_
  by_cases h:a∈fAs l
  ·refine kA (v a h o e) λes n k=>?_;obtain⟨b,g⟩:=up a _ i λvs q=>by rw[show({ o with slots:=r }:Obj).data=o.data from rfl,k] at q;cases q
   exact⟨b,g,λc=>absurd k (c es n)⟩
  ·refine cG (x.inb a o (keep a o e) (off a o e d) (f a o e h)) λb g=>?_;have j:=x.stays a _ g;rw[i] at j;have t:b=r:=by injection j with q;injection q with _ _ _ q;exact q.symm
   subst t;exact⟨b,st a _ g,D⟩
 ·exact x.inb a o (keep a o e) (off a o e d) (f a o e h)
 ·rcases x.new a C with z|z
  ·exact .inl z
  ·right;cases y:s.heap.get? a with
   | none=>rfl
   | some o=>rw[keep a o y] at z;cases z
 ·exact⟨x.same.1.trans p.1,x.same.2.trans p.2⟩
theorem y8 {params:List Str}{a:List AV}{e:List (Option Str)}(c:params.map some++e=C.vars) (h:a.length=params.length){y:Str}{dd:AV}(hi:C.vars[i]?=some (some y)) (d:(start C a)[i]?=some (some dd)):params[i]?=some y/\a[i]?=some dd:=by
 unfold start at d
 by_cases b:i<a.length
 ·rw[bJ (by rw[ya];exact b),aq] at d;rw[<-c,bJ (by rw[ya,<-h];exact b),aq] at hi;exact⟨aK (yf hi) λz f g=>yj g▸f,aK (yf d) λz f g=>yj g▸f⟩
 ·rw[cW (by rw[ya];exact hV.mp b),lW] at d;split at d<;>cases d
theorem Gc {params:List Str}{a:List AV}{c:List (Option Str)}(b:params.map some++c=C.vars) (d:a.length=params.length):(start C a).length=C.vars.length:=by unfold start;rw[aC,ya,mE,bY];rw[d,<-b,aC,ya];exact aY _ _
theorem Fq {params:List Str}{d:List AV}{j:List (Option Str)}(b:params.map some++j=C.vars) (o:d.length=params.length)
  (f:∀y,some y∈C.vars->C.names.lookup y=some .local\/C.names.lookup y=some .cell) (g:params.Nodup) (A:env.scope.kind=.function) (t:env.scope.names=C.names) (x:env.globals=dA) (w:env.builtins=builtinsNs)
  (lo:∀a,env.locals<=a->a∉ι/\P.B.get? a=none) (ic:InCallC s env.locals (bindL env.kindOf (params.zip vs) λ_=>none) env.cells (bindC env.kindOf (params.zip vs) λ_=>none) s1)
  (E:∀y,C.names.lookup y=some .cell->∃c,env.cells.lookup y=some c) (v:VRs P.B s1.heap ι d vs):EnvR P.B C env ι s1.heap (start C d):=by
 have l:∀y k,C.names.lookup y=k->env.kindOf y=k:=λy k q=>by unfold cC;rw[t];exact q
 refine⟨A,t,x,w,⟨_,ic.toInCall.ns⟩,(lo _ (az _)).1,(lo _ (az _)).2,λy c D e=>?_,λy c D e=>⟨_,ic.cell y c e⟩,λy z c F G e m=>name_of_addr ic.apart (mem_of_lookup e) (mem_of_lookup m),Gc b o,λi y hi=>?_⟩
 ·have ab:=ic.above y c (mem_of_lookup e);exact⟨(lo c (aX ab)).1,iP ab,(lo c (aX ab)).2⟩
 ·refine(f y (yc hi)).elim (λq=>⟨_,.inl ⟨l _ _ q,_,ic.toInCall.ns,rfl⟩,λdd n=>?_⟩) λq=>(E y q).elim λc e=>⟨_,.inr ⟨.inl (l _ _ q),c,e,ic.cell y c e⟩,λdd n=>?_⟩
  ·have h:=y8 b o hi n;exact aK (v.get h.2) λu p r=>⟨u,sE (l _ _ q) g h.1 p,r⟩
  ·have h:=y8 b o hi n;exact aK (v.get h.2) λu p r=>⟨u,D8 (l _ _ q) g h.1 p,r⟩
theorem Bd (w:W P.B A (d+1) ι H s) (p1:Post P.B ι s ι H s1) (i:env.frame=some env.locals) (e:EnvR P.B C env ι s1.heap loc):W P.B (A.deeper env) d ι H s1:=by
 refine⟨⟨?_,?_,w.room.handled⟩,?_,p1.hr⟩
 ·show A.depth+1+d<_;have:=w.room.depth;rw[bQ,dD 1 d];exact this
 ·show A.units+3+8*d+200<_;have:=w.room.units;exact z95 this
 ·refine aK (w.fr.step p1) λk b q=>⟨env::k,by show A.frames.map _=_;rw[b];rfl,λj a=>?_⟩;refine(yg a).elim (λz=>?_) (q j);rw[z];exact e.ns.elim λm n=>kM n λo' g f c h _=>⟨by rw[e.kind];decide,env.locals,o',i,e.newL,c,⟨g,f,h⟩,e.offL⟩
theorem Fm (keep:∀a o,s.heap.get? a=some o->s1.heap.get? a=some o){a:Addr}(z:s1.heap.get? a=none):s.heap.get? a=none:=by
 cases y:s.heap.get? a with
 | none=>rfl
 | some o=>rw[keep a o y] at z;cases z
theorem Ec {e:Shared}{c:Hp}{h₁:Heap}{h:Nat}(b:s1={ s with heap:=h₁,toks:=h }) (keep:∀a o,s.heap.get? a=some o->s1.heap.get? a=some o) (hi:∀a∈S,s.heap.get? a=none) (p2:PostS P.B S ι s1 ι2 c e):Post P.B ι s ι2 c e :=
 ⟨p2.pre,p2.hr,λa o d g=>p2.kept a o (keep a o d) λm=>(yd m).elim (λz=>by have:=hi a z;rw[d] at this;cases this) g,λa f=>(p2.new a f).imp id (Fm keep),p2.same.1.trans (by rw[b]),p2.same.2.trans (by rw[b])⟩
theorem uj {A:Around}{d:List Env}(c:∀env∈d,env.scope.kind≠.module/\∃L o,env.frame=some L/\B.get? L=da/\h.get? L=some o/\(∃es n,o.data=.dict es n)/\L∉ι) :
  ∀a∈fAs d,∀o,h.get? a=some o->∃es n,o.data=.dict es n:=λa k o g =>
 aK (cz.mp k) λf b q=>mI (c f b).2 λL o' e _ i j _=>by rw[q] at e;have:=yj e;subst this;have:=yj (g.symm.trans i);subst this;exact j
theorem Ea {A:Around}{env:Env}{ι ι':List Addr}{s s1 s':Shared}{H':Hp}{S:List Addr}{g:List Env}{f:Value}{c:Str}{R:Value->Shared->Prop}(h:(A.deeper env).frames=some (env::g)) (v:env.frame=some env.locals) (E:rK P (env::g) S ι s1 ι' H' s' f c\/vV P (env::g) S ι s1 ι' H' s' f c)
  (out:∀base h',XLeft P.B (env::g) S ι s1 ι' H' base s'->base.StaysIn h'->s'.heap.UpToSlots h'->XLeft P.B g [] ι s ι' H' base { s' with heap:=h' }) (p:∀a,rK P g [] ι s ι' H' a f c->R f a) :
  aP (model P.prog P.w) (A.deeper env) (leaving env f) (λ_ a=>R f a) (λe a=>R e a) s':=by
 rcases E with⟨j,base,D,rfl,k,l,m,q⟩|⟨j,base,D,rfl,k,l,⟨I,G,y,u,C⟩|⟨m,L,H,r,z,q,d⟩⟩
 ·exact wpAny_leaves_onW h v q λh' b up=>p _ ⟨j,base,D,rfl,k,out base h' l b.1 up,m,b⟩
 ·exact wpAny_leaves_madeW h v y u C λh' t b _ _ up=>p _ ⟨j,base,D,rfl,k,out base h' l b.1 up,_,b⟩
 ·refine c7 (fq z) λn o=>?_;subst n;subst o;refine ad (wpAny_noteFrame_againW q d.2.2.2 ?_);refine wpAny_landsW d λh' x up=>?_;refine jA (x) λk1 k2 i F=>?_;clear x;refine fT (i) λ_ _ k3=>?_;clear i;exact p _ ⟨j,base,D,rfl,k,out base h' l k1 up,m,k1,k2,k3,F⟩
theorem uK {x:Str}{params:List Str}{body:List Stmt}{j:List AV}{Q:AV->Hp->Prop}(ok:P.OK) (fn:FnAt P x C params body) (good:C.good params=true) (hl:j.length=params.length)
  (h:ExsX P C d body (start C j) H (endX Q X)):g6 P (d+1) x j H Q X:=λA ι s vs fa R e w r hR hX=>by
 refine lG (fn.ex) λa6 o fd h1 h2 h3 h4 K=>?_;have:=gD (yj (e.symm.trans h1));subst this;refine oh K λT h6 h7 h8 q=>oh q λh9 M N O S=>?_;clear q K h1;simp only[Ctx.good,aS,aN,decide_eq_true_eq] at good;have g1:=good.1.1.1;have g2:=good.1.1.2;refine(List.isPrefixOf_iff_prefix.mp good.1.2).elim λa5 i=>?_;clear good;have Y:vs.length=params.length:=r.length.trans hl;have l:∀y,some y∈C.vars->C.names.lookup y=some .local\/C.names.lookup y=some .cell:=λy D=>by have:=g1 _ D;simpa using this
 have a2:params.Nodup:=by rw[<-i] at g2;exact(jX.mp (dU.mp g2).1).imp λZ a0=>Z (congrArg some a0)
 have kc:∀{n:Nat} y,C.names.lookup y=some .cell->∃c,(cellsFrom n fd.scope.names []).lookup y=some c:=λy D =>
  (GX (n:=_) (acc:=[]) (.inl (T▸G0 D))).elim λc I=>zF I
 refine kI (fd:=fd) (body:=body) (binds:=params.zip vs) (aw (aY _ _) w.room.depth) (w.hr.base _ _ h2) h3 (ok.nolimit.keeps w.hr.base) (O.keeps w.hr.base) h4 (S vs Y) h9 (λy D=>?_) (λs1 ic=>?_) h7 h8 h6
 ·have a1:y.1∈params:=(List.of_mem_zip (show(y.1,y.2)∈params.zip vs from D)).1;have U:fd.scope.names.lookup y.1=C.names.lookup y.1:=by rw[T]
  rw[U];exact(l _ (by rw[<-i];exact yp (.inl (yo ⟨_,a1,rfl⟩)))).imp id λq=>⟨q,(kc _ q).elim λc I=>by rw[I];rfl⟩
 ·generalize b:callEnvC fd s.heap.objs.size fa=env at ic ⊢;have el:env.locals=s.heap.objs.size:=by rw[<-b];rfl
  have L:env.frame=some env.locals:=by rw[<-b];rfl
  have keep:=ic.toInCall.keep;refine kA (ic.toInCall.same) λh₁ t1 k=>aK w.fr λG F V=>?_;have p1:Post P.B ι s ι H s1:=by rw[k];exact Post.keep w.hr (by rw[k] at keep;exact keep)
  have J:∀a,env.locals<=a->s.heap.get? a=none:=λa E=>by
   cases z:s.heap.get? a with
   | none=>rfl
   | some o=>exact absurd (ci z) (hV.mpr (el▸E))
  have p:EnvR P.B C env ι s1.heap (start C j):=by
   refine Fq i hl l a2 (by rw[<-b];exact h6) (by rw[<-b];exact T) (by rw[<-b];exact M) (by rw[<-b];exact N) (λa E=>⟨λm=>?_,?_⟩) ic (λy D=>by rw[<-b];exact kc y D) (p1.vrs w.hr r)
   ·exact(w.hr.mem m).elim λo eo=>by rw[J a E] at eo;cases eo
   ·cases z:P.B.get? a with
    | none=>rfl
    | some o=>have:=w.hr.base a o z;rw[J a E] at this;cases this
  have hi:∀a∈own C env,s.heap.get? a=none:=λa E=>(qX E).elim (λq=>J a (bf q.symm)) λq=>aK q λy _ q=>J a (aX (ic.above y a (mem_of_lookup q)));have t:(A.deeper env).frames=some (env::G):=by show A.frames.map _=_;rw[F];rfl
  clear b;refine gs (h (A.deeper env) _ env ι s1 (Bd w p1 L p) p ⟨L,G,t⟩ λl' W e' s' ι' H' a3 c hx _ I=>?_) λf s2 ι2 H2 a4 G p2 e2 r2 g=>?_
  ·have:=yj (t.symm.trans W);subst this;exact Ea (R:=λe s=>R (.error e) s) t L hx (λbase h' xl st up=>xl.out L keep hi (J _ (az _)) ⟨by rw[k],by rw[k]⟩ (uj (A:=A) V) st up) λa7 q=>hX G F _ _ ι' H' c q I
  ·have pp:=Ec k keep hi p2;cases G with
   | next=>cases r2;exact hR .none s2 ⟨ι2,H2,.none,pp,rfl,g⟩
   | brk=>exact g.elim
   | cont=>exact g.elim
   | ret v=>exact aK r2 λu hu ru=>by subst hu;exact hR u s2 ⟨ι2,H2,v,pp,ru,g⟩
   | exc c=>exact r2.elim
theorem zc {x:Str}{params:List Str}{body:List Stmt}{a:List AV}{Q:AV->Hp->Prop}(ok:P.OK) (fn:FnAt P x C params body) (good:C.good params=true) (k:a.length=params.length)
  (h:nV P C d body (start C a) H (i6 Q)):g6 P (d+1) x a H Q X :=
 g6.x (uK ok fn good k λA E env ι s w e _ _=>aD (h A E env ι s w e) (λf s' g=>by
  obtain⟨ι',H',b,i,p,j,r,g⟩:=g;refine⟨ι',H',b,i,p,j,r,?_⟩;cases i with
  | exc c=>exact r.elim
  | _=>exact g) λ_ _ x=>x)
end Mine
namespace Mine
open PySem
variable {P:PEnv}{C:Ctx}{d:Nat}{loc:Loc}{H:Hp}{X:XP}
def pQ (es:List Expr):Prop:=∀env pos,(backTo pos (bD es env)).any (·.1)=false
theorem xw {x:Str}{r:Pos}{f:Expr}{Q:AV->Hp->Prop}(ok:P.OK) (p:C.names.lookup x=some .globalImplicit) (k:(x == ("__debug__" : Str))=false)
  {i:Addr}{o:Obj}{fd:FuncData}(j:P.mg x=some (.ref i)) (q:P.B.get? i=some o) (n:o.data=.func fd)
  (h:lH P C d (f::es) loc H (λc H'=>g6 P d x c H' Q X) X) (m:∀env,bD (f::es) env=(false,eval f env)::bD es env) :
  EvOK P C d (.Call (.Name x r) (f::es) [] pos) loc H Q X:=λA E env ι s w e a=>by
 refine PyProof.Rows.Call_ (bk e.kind (by unfold cC;rw[e.names];exact p) (dh (e.glob▸ok.g.keeps λb o e=>w.hr.base b o e) j ?_) k);refine PyProof.Rows.callWith_def (o:=o) (fd:=fd) n (gll (h A E env ι s pos w e a) (λvs s1 ι1 u l p1 t g=>?_)) (m env);refine⟨p1.hr.base _ _ q,kH (g A ι1 s1 vs i _ (P.fn_mg j) (w.step p1) t (λv s' gv=>gv.before p1) ?_)⟩;exact a.step p1
theorem zM {x:Str}{id:String}{q:Pos}{f:Expr}{Q:AV->Hp->Prop}(ok:P.OK) (n:C.names.lookup x=some .globalImplicit) (j:(x == ("__debug__" : Str))=false)
  (m:P.mg x=none) (i:P.mb x=some (.builtin id))
  (h:lH P C d (f::es) loc H (λc H'=>OpOK P d (λvs=>call (.builtin id) vs) c H' Q) X) (k:∀env,bD (f::es) env=(false,eval f env)::bD es env) (p:pQ es) :
  EvOK P C d (.Call (.Name x q) (f::es) [] pos) loc H Q X:=λA E env ι s w e a=>by
 refine PyProof.Rows.Call_ (bk e.kind (by unfold cC;rw[e.names];exact n) (dL (e.glob▸ok.g.keeps λb o e=>w.hr.base b o e) m (e.blt▸ok.b.keeps λb o e=>w.hr.base b o e) i ?_) j);refine PyProof.Rows.callWith_builtin1 (gll (h A E env ι s pos w e a) (λvs s1 ι1 t l p1 r g=>?_)) (k env) (p env pos);exact aD (g A E ι1 s1 vs (w.step p1) r) (λv s' gv=>gv.before p1) λ_ _ x=>x
theorem to {x:Str}{T:String}{q:Pos}{f:Expr}{Q:AV->Hp->Prop}(ok:P.OK) (n:C.names.lookup x=some .globalImplicit) (j:(x == ("__debug__" : Str))=false)
  (m:P.mg x=none) (i:P.mb x=some (.type T))
  (h:lH P C d (f::es) loc H (λc H'=>OpOK P d (λvs=>call (.type T) vs) c H' Q) X) (k:∀env,bD (f::es) env=(false,eval f env)::bD es env) (p:pQ es) :
  EvOK P C d (.Call (.Name x q) (f::es) [] pos) loc H Q X:=λA E env ι s w e a=>by
 refine PyProof.Rows.Call_ (bk e.kind (by unfold cC;rw[e.names];exact n) (dL (e.glob▸ok.g.keeps λb o e=>w.hr.base b o e) m (e.blt▸ok.b.keeps λb o e=>w.hr.base b o e) i ?_) j);refine PyProof.Rows.callWith_type1 (gll (h A E env ι s pos w e a) (λvs s1 ι1 t l p1 r g=>?_)) (k env) (p env pos);exact aD (g A E ι1 s1 vs (w.step p1) r) (λv s' gv=>gv.before p1) λ_ _ x=>x
theorem AY {x y:Str}{id:String}{i:Value}{D n:Pos}{f:Expr}{Q:AV->Hp->Prop}(ok:P.OK) (z:C.names.lookup x=some .globalImplicit) (t:(x == ("__debug__" : Str))=false)
  (u:P.mg x=none) (r:P.mb x=some (.builtin id)) (k:C.names.lookup y=some .globalImplicit) (j:(y == ("__debug__" : Str))=false) (m:P.mg y=some i\/(P.mg y=none/\P.mb y=some i))
  (h:EvOK P C d f loc H (λv H'=>OpOK P d (λvs=>call (.builtin id) [vs.getD 0 .none,i]) [v] H' Q) X) (p:∀env,bD [f,.Name y n] env=(false,eval f env)::bD [.Name y n] env) :
  EvOK P C d (.Call (.Name x D) [f,.Name y n] [] pos) loc H Q X:=λA E env ι s w e a=>by
 refine PyProof.Rows.Call_ (bk e.kind (by unfold cC;rw[e.names];exact z) (dL (e.glob▸ok.g.keeps λb o e=>w.hr.base b o e) u (e.blt▸ok.b.keeps λb o e=>w.hr.base b o e) r ?_) t);refine PyProof.Rows.callWith_builtin1 ?_ (p env) rfl;refine lD (gv (h A E env ι s w e a) (λv s1 ι1 K l p1 I g=>?_)) (p env);have c:=e.step w.hr p1;refine lD (bk c.kind (by unfold cC;rw[c.names];exact k) ?_ j) rfl;have fin:aP (model P.prog P.w) A (spliced (backTo pos (bD [] env))) (λvs J=>aP (model P.prog P.w) A (call (.builtin id) (v::i::vs)) (Gives P.B ι s Q) E J) E s1 :=
  wpAny_items_nil (aD (g A E ι1 s1 [v] (w.step p1) ⟨_,_,rfl,I,rfl⟩) (λ_ _ gv=>gv.before p1) λ_ _ x=>x)
 rcases m with q|⟨F,G⟩
 ·exact dh (c.glob▸ok.g.keeps λb o e=>p1.hr.base b o e) q fin
 ·exact dL (c.glob▸ok.g.keeps λb o e=>p1.hr.base b o e) F (c.blt▸ok.b.keeps λb o e=>p1.hr.base b o e) G fin
def qS (P:PEnv) (x:AV) (H:Hp) (name:Str) (id:String):Prop :=
 ∀A E ι s v (pl:Sem Bool) (Q:Value×List Value->Shared->Prop),HR P.B ι H s.heap->VR P.B s.heap ι x v->Q (.builtin id,[v]) s->aP (model P.prog P.w) A (getMethod v name pl) Q E s
theorem EM {o:Expr}{name:Str}{b:Pos}{pl:Env->Sem Bool}{Q:AV->Hp->Prop}
  (h:EvOK P C d o loc H (λx c=>∃id,qS P x c name id/\OpOK P d (λvs=>call (.builtin id) vs) [x] c Q) X)
  (j:∀env,eval (.Call (.Attribute o name b) [] [] pos) env=(do
   let ov <-eval o env
   standAt b.atName
   let (f,first) <-holding [ov] (getMethod ov name (pl env))
   callWith pos f first (backTo pos (bD [] env)) [])) :
  EvOK P C d (.Call (.Attribute o name b) [] [] pos) loc H Q X:=λA E env ι s w e a=>by
 refine PyProof.Rows.MethodCall_ (gv (h A E env ι s w e a) (λv s1 ι1 c x p1 i g=>?_)) (j env);refine aK (g) λid k g=>?_;refine k A E ι1 s1 v _ _ p1.hr i ?_;refine PyProof.Rows.callWith_method0 (aD (g A E ι1 s1 [v] (w.step p1) ⟨_,_,rfl,i,rfl⟩) (λ_ _ gv=>gv.before p1) λ_ _ x=>x)
theorem xz {o:Expr}{name:Str}{b:Pos}{c:Expr}{pl:Env->Sem Bool}{Q:AV->Hp->Prop}
  (h:EvOK P C d o loc H (λx j=>∃id,qS P x j name id/\lH P C d (c::es) loc j (λi k=>OpOK P d (λvs=>call (.builtin id) vs) (x::i) k Q) X) X)
  (n:∀env,eval (.Call (.Attribute o name b) (c::es) [] pos) env=(do
   let ov <-eval o env
   standAt b.atName
   let (f,first) <-holding [ov] (getMethod ov name (pl env))
   callWith pos f first (backTo pos (bD (c::es) env)) []))
  (r:∀env,bD (c::es) env=(false,eval c env)::bD es env) (q:pQ es) :
  EvOK P C d (.Call (.Attribute o name b) (c::es) [] pos) loc H Q X:=λA E env ι s w e a=>by
 refine PyProof.Rows.MethodCall_ (gv (h A E env ι s w e a) (λv s1 ι1 j x p1 m g=>?_)) (n env);refine aK (g) λid p g=>?_;refine p A E ι1 s1 v _ _ p1.hr m ?_;refine PyProof.Rows.callWith_method1 (gll (g A E env ι1 s1 pos (w.step p1) (e.step w.hr p1) (a.step p1)) (λvs u ι2 k l p2 t g=>?_)) (r env) (q env pos);exact aD (g A E ι2 u (v::vs) ((w.step p1).step p2) ⟨_,_,rfl,p2.vr p1.hr m,t⟩) (λ_ _ gv=>(gv.before p2).before p1) λ_ _ x=>x
end Mine
namespace Mine
open PySem
variable {P:PEnv}{C:Ctx}{d:Nat}{loc:Loc}{H:Hp}{X:XP}
theorem Post.off {T:List Addr}{H':Hp}(p:Post B ι s ι' H' s') (c:∀b o,b∉T->s'.heap.get? b=some o->h'.get? b=some o) (j:kD T s'.heap) (i:∀a∈T,a∉ι')
  (h:∀a∈T,s.heap.get? a=none) (g:∀a∈T,B.get? a=none):Post B ι s ι' H' { s' with heap:=h',toks:=t } :=
 ⟨p.pre,p.hr.off c j i g,λa o e d=>aK (p.kept a o e d) λl f k=>⟨l,c a _ (λm=>jO (h a m) e) f,k⟩,p.new,p.same⟩
theorem Post.gone {H':Hp}(p:Post B ι s ι' H' s'){b:Addr}(c:s'.heap.get? b=none):s.heap.get? b=none:=by
 cases z:s.heap.get? b with
 | none=>rfl
 | some o =>
  by_cases hi:b∈ι
  ·exact(p.hr.mem (p.pre.subset hi)).elim λo' a=>jO c a
  ·exact aK (p.kept b o z hi) λe d _=>jO c d
noncomputable def om (outer names:List (Str×NameKind)):List (Str×NameKind):=names.map λ(n,k)=>if (k == .free&&outer.lookup n == some .cell) then (n,.cell) else (n,k)
noncomputable def jU (C:Ctx) (scope:Scope) (locals:List Str):Ctx where
 vars:=(C.vars.map λo=>o.bind λx=>if scope.names.lookup x == some .free then some x else none)++locals.map some
 names:=om C.names scope.names
 ro:=C.vars.length
noncomputable def sF (C:Ctx) (scope:Scope) (locals:List Str):Bool :=
 decide (scope.kind=.function)&&decide ((scope.names.map (·.1)).Nodup)&&scope.names.all (λx=>decide (x.2≠.cell)) &&
 scope.names.all (λx=>x.2 != .free||(C.vars.contains (some x.1)&&(C.names.lookup x.1 == some .cell||C.names.lookup x.1 == some .free)&&((om C.names scope.names).lookup x.1 == some .cell||(om C.names scope.names).lookup x.1 == some .free))) &&
 locals.all (λx=>scope.names.lookup x == some .local&&(om C.names scope.names).lookup x == some .local)&&decide (locals.Nodup)
theorem zk {x:Str}{k:NameKind}{l:List (Str×NameKind)}(nd:(l.map (·.1)).Nodup) (h:(x,k)∈l):l.lookup x=some k:=by
 induction l with
 | nil=>cases h
 | cons p r ih =>
  rw[kx];have nd:=fo.mp nd;rcases yg h with e|m
  ·rw[<-e,beq_self_eq_true]
  ·have:(x == p.1)=false:=beq_eq_false_iff_ne.mpr λe=>nd.1 (yo ⟨(x,k),m,e⟩);rw[this];exact ih nd.2 m
noncomputable def clF (env:Env) (x:Str×NameKind) (cs:List (Str×Addr)):Sem (ForInStep (List (Str×Addr))):=if x.2 == .free then (do let c <-cellOf env x.1;pure (ForInStep.yield ((x.1,c)::cs))) else pure (ForInStep.yield cs)
theorem Gy {names:List (Str×NameKind)}:∀(acc:List (Str×Addr)),(∀x,(x,NameKind.free)∈names->∃c,env.cells.lookup x=some c)->(∀y∈acc,env.cells.lookup y.1=some y.2) ->
  ∃a:List (Str×Addr),forIn names acc (clF env)=pure a/\(∀y∈a,env.cells.lookup y.1=some y.2)/\(∀x,((x,NameKind.free)∈names\/∃c,(x,c)∈acc)↔∃c,(x,c)∈a):=by
 induction names with
 | nil=>exact λacc _ d=>⟨acc,rfl,d,λx=>⟨λh=>h.elim (λq=>nomatch q) id,.inr⟩⟩
 | cons p r ih =>
  intro acc o d;obtain⟨n,k⟩:=p;rw[List.forIn_cons];have b:∀x,(x,NameKind.free)∈r->∃c,env.cells.lookup x=some c:=λx s=>o x (yi _ s)
  by_cases j:k=.free
  ·subst j;refine cG (o n (aR ..)) λc l=>?_;refine eT (ih ((n,c)::acc) b λy t=>(yg t).elim (λe=>by rw[e];exact l) (d y)) λa e g i=>⟨a,?_,g,λx=>(Iff.intro ?_ ?_).trans (i x)⟩
   ·have:clF env (n,.free) acc=pure (ForInStep.yield ((n,c)::acc)):=by
     have q:cellOf env n=pure c:=by unfold cellOf;rw[l]
     exact congrArg (· >>= λc=>pure (ForInStep.yield ((n,c)::acc))) q
    rw[this];exact e
   ·exact λh=>h.elim (λh=>(yg h).elim (λe=>.inr ⟨c,(iq e).1▸aR ..⟩) .inl) λh=>cG h λf h=>.inr ⟨f,yi _ h⟩
   ·exact λh=>h.elim (λh=>.inl (yi _ h)) λh=>cG h λf h=>(yg h).elim (λe=>.inl ((iq e).1▸aR ..)) λm=>.inr ⟨f,m⟩
  ·refine eT (ih acc b d) λa e g i=>⟨a,?_,g,λx=>(Iff.intro ?_ ?_).trans (i x)⟩
   ·have:clF env (n,k) acc=pure (ForInStep.yield acc):=if_neg λz=>j (eq_of_beq z);rw[this];exact e
   ·exact λh=>h.imp (λh=>(yg h).resolve_left λe=>j (iq e).2.symm) id
   ·exact λh=>h.imp (yi _) id
theorem Gx {scope:Scope}(f:∀x,(x,NameKind.free)∈scope.names->∃c,env.cells.lookup x=some c) :
  ∃a:List (Str×Addr),closureFor scope env=pure a/\(∀y∈a,env.cells.lookup y.1=some y.2)/\∀x,(x,NameKind.free)∈scope.names↔∃c,(x,c)∈a:=by
 refine eT (Gy (env:=env) (names:=scope.names) [] f (λ_ h=>nomatch h)) λa e b d=>⟨a,?_,b,λx=>Iff.trans ⟨.inl,λh=>h.elim id λh=>cG h λ_ q=>nomatch q⟩ (d x)⟩;show(forIn scope.names ([]:List (Str×Addr)) (clF env) >>= λcs=>pure cs)=pure a;rw[e];rfl
def vP (M:Model) (A:Around) (F:Value->Shared->Prop) (elt target:Expr) (ifs:List Expr) (it acc:Value) (env:Env) (stop nxt:Shared->Prop) (r:Option Value) (s₁:Shared):Prop:=match r with
 | none=>stop s₁
 | some v=>aP M A (letOwnedTupleGo target it v) (λ_ s₁'=>aP M A (assign target env v) (λ_ s₂ =>
   aP M A (forIn ifs true λc r=>if r=true then do let ok <-isTrue c env (eval c env);pure (ForInStep.yield ok) else pure (ForInStep.yield r)) (λok s₃ =>
    if ok=true then aP M A (eval elt env) (λx s₄=>aP M A (call (.builtin "list.append") [acc,x]) (λ_ s₅=>nxt s₅) F s₄) F s₃ else nxt s₃) F s₂) F s₁') F s₁
theorem GG {prog:Program}{w:World}{R:Result->Shared->Prop}{c a b:Expr}{d:List Expr}{scope:Scope}{it acc:Value}(I:Nat->Shared->Prop)
  (e:∀n s F,I n s->aP (model prog w) A (pyNext it) (vP (model prog w) A F c a d it acc env (R (.ok .next)) λi=>∃m,m<n/\I m i) F s)
  (n:Nat) (h:I n s):codeAny (model prog w) A (.compLoop (.ListComp c [⟨a,b,d,0⟩] scope pos) 0 it acc env) R s:=by
 refine codeAny_loop rfl I (λn s l=>?_) n h;show aP _ A ((compTurn (.ListComp c [⟨a,b,d,0⟩] scope pos) 0 it acc env).onRaise (λx=>do noteFrame x env;theTreesLotGoes x)) _ _ s;refine wpAny_noted ?_;rw[compTurn_list];refine ad (fG (ad (aD (e n s _ l) (λr s1 h₁=>?_) λ_ _ h'=>h')));cases r with
 | none=>exact aJ h₁
 | some v =>
  refine ad (aD h₁ (λ_ o f=>?_) λ_ _ h'=>h');refine ad (aD f (λ_ p h₂=>ad (aD h₂ (λok q g=>?_) λ_ _ h'=>h')) λ_ _ h'=>h');cases ok with
  | false=>exact aJ ⟨rfl,g⟩
  | true=>exact ad (ad (aD g (λx t j=>ad (aD j (λ_ i k=>aJ (aJ ⟨rfl,k⟩)) λ_ _ h'=>h')) λ_ _ h'=>h'))
def qR (P:PEnv) (C:Ctx) (d:Nat) (ifs:List Expr) (loc:Loc) (H:Hp) (K:Bool->Hp->Prop):Prop :=
 match ifs with
 | []=>K true H
 | [c]=>TsOK P C d c loc H K XF
 | _=>False
theorem Cj {a:List Expr}{K:Bool->Hp->Prop}(w:W P.B A d ι H s) (e:EnvR P.B C env ι s.heap loc) (h:qR P C d a loc H K) :
  aP (model P.prog P.w) A (forIn a true λc r=>if r=true then do let ok <-isTrue c env (eval c env);pure (ForInStep.yield ok) else pure (ForInStep.yield r)) (GivesB P.B ι s K) E s:=by
 match a,h with
 | [],h=>exact wpAny_tests_nil ⟨ι,H,Post.id w.hr,h⟩
 | [c],h=>exact wpAny_tests_one (h A E env ι s w e Acc.no)
structure CompOK (C:Ctx) (scope:Scope) (locals:List Str):Prop where
 kind:scope.kind=.function
 nodup:(scope.names.map (·.1)).Nodup
 nocell:∀x∈scope.names,x.2≠.cell
 free:∀x,(x,NameKind.free)∈scope.names->some x∈C.vars/\(C.names.lookup x=some .cell\/C.names.lookup x=some .free)/\((om C.names scope.names).lookup x=some .cell\/(om C.names scope.names).lookup x=some .free)
 locs:∀x∈locals,scope.names.lookup x=some .local/\(om C.names scope.names).lookup x=some .local
 lnd:locals.Nodup
theorem lZ {C:Ctx}{scope:Scope}{locals:List Str}(h:sF C scope locals=true):CompOK C scope locals:=by simp only[sF,aS,decide_eq_true_eq,aN] at h;refine c7 (h) λb i=>?_;clear h;obtain⟨⟨⟨⟨c,d⟩,e⟩,f⟩,g⟩:=b;refine⟨c,d,λx a=>by simpa using e x a,λx a=>?_,λx a=>by simpa using g x a,i⟩;have:=f _ a;simpa [and_assoc] using this
structure CpS (P:PEnv) (C':Ctx) (cenv:Env) (ι₁:List Addr) (H₁:Hp) (s₁:Shared) (wr:List Addr) (D Ca:Addr):Prop where
 hr:HR P.B ι₁ H₁ s₁.heap
 capd:∀x c,cenv.cells.lookup x=some c->∃o,s₁.heap.get? c=some o
 ownC:∀b∈own C' cenv,b=Ca
 wrn:∀a∈wr,s₁.heap.get? a=none
 wrD:∀b∈wr,b≠D/\b≠Ca
 nD:s₁.heap.get? D=none
 nC:s₁.heap.get? Ca=none
 ne:D≠Ca
 loc:cenv.locals=Ca
structure CpA (P:PEnv) (C':Ctx) (cenv:Env) (ι₁:List Addr) (s₁:Shared) (wr:List Addr) (D:Addr) (l:List AV) (vs:List Value) (ι':List Addr) (H':Hp) (s':Shared) (lc:Loc):Prop where
 p:Post P.B ι₁ s₁ ι' H' s'
 e:EnvR P.B C' cenv ι' s'.heap lc
 pl:s'.heap.PlainList D (aW vs)
 rl:VRs P.B s'.heap ι' l vs
 wrO:∀b∈wr,b∉ι'
 dO:D∉ι'
section
variable {C':Ctx}{cenv:Env}{ι₁:List Addr}{H₁:Hp}{s₁:Shared}{wr:List Addr}{D Ca:Addr}{l:List AV}{vs:List Value}{ι':List Addr}{H':Hp}{s':Shared}{lc:Loc}
theorem CpA.off (a:CpA P C' cenv ι1 s1 wr D l vs ι' H' s' lc) (S:CpS P C' cenv ι1 H1 s1 wr D Ca)(g:kD wr s'.heap) (d:∀b o,b∉wr->s'.heap.get? b=some o->h'.get? b=some o) :
  CpA P C' cenv ι1 s1 wr D l vs ι' H' { s' with heap:=h',toks:=t } lc :=
 ⟨a.p.off d g a.wrO S.wrn λb h=>S.hr.noB (S.wrn b h),a.e.off d g (λm=>(S.wrD _ m).2 S.loc) (λx c _ i m=>(S.capd x c i).elim λo f=>jO (S.wrn c m) f),
  a.pl.at λo f=>d D o (λm=>(S.wrD D m).1 rfl) f,VRs.mono (Kept.of_keeps d) g (af _) _ _ a.rl,a.wrO,a.dO⟩
theorem v6 {a b:Heap}{c:List Value}(f:Kept S a b) (e:D∉S) (q:a.PlainList D (aW c)):b.PlainList D (aW c):=q.elim λn d=>⟨n,f.exact d e λ_ _ z=>by cases z⟩
theorem CpS.own (S:CpS P C' cenv ι1 H1 s1 wr D Ca){b:Addr}(a:b∈own C' cenv++ι'):b=Ca\/b∈ι':=(yd a).imp (S.ownC b) id
theorem CpA.tgt (a:CpA P C' cenv ι1 s1 wr D l vs ι' H' s' lc) (S:CpS P C' cenv ι1 H1 s1 wr D Ca){g:Shared}{d:Loc}(q:PostS P.B (own C' cenv) ι' s' ι' H' g) (e:EnvR P.B C' cenv ι' g.heap d):CpA P C' cenv ι1 s1 wr D l vs ι' H' g d :=
 ⟨⟨a.p.pre,q.hr,λb o f i=>aK (a.p.kept b o f i) λn j z1=>aK (q.kept b _ j λm=>(S.own m).elim (λz=>jO S.nC (z▸f)) λz=>(a.p.new b z).elim i λu=>jO u f) λh k z2=>⟨h,k,λc=>(z2 c).trans (z1 c)⟩,
   a.p.new,q.same.1.trans a.p.same.1,q.same.2.trans a.p.same.2⟩,e,v6 q.kept (λm=>(S.own m).elim S.ne a.dO) a.pl,VRs.mono q.kept (a.e.noTup a.p.hr) (af _) _ _ a.rl,a.wrO,a.dO⟩
theorem CpA.post (a:CpA P C' cenv ι1 s1 wr D l vs ι' H' s' lc){d:Hp}{g:Shared}(q:Post P.B ι' s' ι2 d g) (h:∀a∈wr,∃o,s'.heap.get? a=some o/\∀vs n,o.data≠.seq vs n):CpA P C' cenv ι1 s1 wr D l vs ι2 d g lc :=
 ⟨a.p.trans q,a.e.step a.p.hr q,v6 q.kept a.dO a.pl,q.vrs a.p.hr a.rl,λb f m=>(q.new b m).elim (a.wrO b f) λu=>aK (h b f) λo c _=>jO u c,λm=>(q.new D m).elim a.dO λu=>a.pl.elim λn c=>jO u c⟩
theorem zy (pl:h.PlainList D (aW vs)):kD [D] h:=λb e f t=>by rw[yb e] at t;refine eT t λo' a c _=>pl.elim λn d=>?_;have:=yj (d.symm.trans a);subst this;simp at c
theorem CpA.app (a:CpA P C' cenv ι1 s1 wr D l vs ι' H' s' lc) (S:CpS P C' cenv ι1 H1 s1 wr D Ca){u:Value}{x:AV}(g:h'.PlainList D (aW (vs++[u]))) (d:∀b o,b∉[D]->s'.heap.get? b=some o->h'.get? b=some o) (r:VR P.B s'.heap ι' x u) :
  CpA P C' cenv ι1 s1 wr D (l++[x]) (vs++[u]) ι' H' { s' with heap:=h',toks:=s'.toks } lc :=
 have f:=zy a.pl;have one:∀{Z:Addr->Prop},Z D->∀b∈[D],Z b:=λz b i=>yb i▸z
 ⟨a.p.off d f (one (Z:=λb=>b∉ι') a.dO) (one (Z:=λb=>s1.heap.get? b=none) S.nD) (one (Z:=λb=>P.B.get? b=none) (S.hr.noB S.nD)),a.e.off d f (λm=>S.ne ((yb m).symm.trans S.loc)) (λx c _ j m=>(S.capd x c j).elim λo h=>jO S.nD (yb m▸h)),
  g,VRs.append (VRs.mono (Kept.of_keeps d) f (af _) _ _ a.rl) ⟨u,[],rfl,VR.mono (Kept.of_keeps d) f (af _) _ _ r,rfl⟩,a.wrO,a.dO⟩
end
inductive CpI (P:PEnv) (C':Ctx) (cenv:Env) (ι₁:List Addr) (s₁:Shared) (wr:List Addr) (D:Addr) (It:Nat->List Addr->Heap->Prop) (loc:Loc) (q m:Nat) (J:Nat->List AV->Hp->Prop) (n:Nat) (s':Shared):Prop where
 | mk (k:Nat) (ι':List Addr) (H':Hp) (l:List AV) (vs:List Value) (cv:Loc) (hn:n=m+1-k) (hk:k<=m) (hl:l.length<=k) (hcv:cv.length=q) (a:CpA P C' cenv ι₁ s₁ wr D l vs ι' H' s' (loc++cv)) (it:It k ι' s'.heap) (j:J k l H')
theorem CpI.el {C':Ctx}{cenv:Env}{wr:List Addr}{D:Addr}{a:Nat->List Addr->Heap->Prop}{q:Nat}{J:Nat->List AV->Hp->Prop}{n:Nat}{G:Prop}(h:CpI P C' cenv ι1 s1 wr D a loc q m J n s')
  (g:∀k ι' H' l vs cv,n=m+1-k->k<=m->l.length<=k->cv.length=q->CpA P C' cenv ι1 s1 wr D l vs ι' H' s' (loc++cv)->a k ι' s'.heap->J k l H'->G):G:=by
 cases h with|mk k ι' H' l vs cv b c d e f i j=>exact g k ι' H' l vs cv b c d e f i j
theorem Fu {tt:Bool}{Q tgt:Expr}{Z:List Expr}{C':Ctx}{cenv:Env}{ι1:List Addr}{H1:Hp}{s1:Shared}{wr:List Addr}{D Ca I:Addr}{items:List AV}{Cnd:Hp->Prop}{j:Nat->List Addr->Heap->Prop}{ah:Nat->Value->List Addr->Heap->Prop}{q:Nat}{J:Nat->List AV->Hp->Prop}{K:List AV->Hp->Prop}
  {A:Around}{F:Value->Shared->Prop}{C:Shared->Prop}{n:Nat}{s':Shared}(S:CpS P C' cenv ι1 H1 s1 wr D Ca) (w1:W P.B A d ι1 H1 s1) (itr:Itr P tt I wr items Cnd j ah) (ht:tt=true->nW tgt=true) (X:items.length<=ag)
  (E:∀k l H,J k l H->Cnd H/\(∀y,items[k]?=some y->∀cv:Loc,cv.length=q->TgOK P C' tgt y (loc++cv) (λl'=>(∃c:Loc,c.length=q/\l'=loc++c)/\qR P C' d Z l' H (λb H' =>
    if b then EvOK P C' d Q l' H' (λv ae=>J (k+1) (l++[v]) ae) XF else J (k+1) l H')))/\(k=items.length->K l H))
  (fin:∀ι' H' l vs s' lc,CpA P C' cenv ι1 s1 wr D l vs ι' H' s' lc->l.length<=ag->K l H'->C s') (hI:CpI P C' cenv ι1 s1 wr D j loc q items.length J n s') :
  aP (model P.prog P.w) A (pyNext (.ref I)) (vP (model P.prog P.w) A F Q tgt Z (.ref I) (.ref D) cenv C λs5=>∃m,m<n/\CpI P C' cenv ι1 s1 wr D j loc q items.length J m s5) F s':=by
 refine hI.el λk ι' H' l vs cv hn hk h al a G hj=>?_;clear hI;refine fT (E k l H' hj) λhc am T=>?_;clear E;have w':=w1.step a.p;have a2:=ntw (itr.there k ι' _ G);cases hx:items[k]? with
 | none =>
  have U:k=items.length:=cI hk (eJ.mp hx);exact itr.stop A _ ι' H' s' _ w'.room.handled w'.hr hc (U▸G) λh' aw aj=>fin ι' H' l vs _ _ (a.off S a2 aj) (aa h (aa hk X)) (T U)
 | some y =>
  have V:k<items.length:=(ym hx).1;have nx:∀{ι2 H2 l2 aq s2 c},c.length=q->l2.length<=k+1->CpA P C' cenv ι1 s1 wr D l2 aq ι2 H2 s2 (loc++c)->j (k+1) ι2 s2.heap->J (k+1) l2 H2->∃m,m<n/\CpI P C' cenv ι1 s1 wr D j loc q items.length J m s2 :=
   λh1 h2 h3 h4 h5=>⟨_,uu hn V,k+1,_,_,_,_,_,rfl,V,h2,h1,h3,h4,h5⟩
  refine itr.next A _ ι' H' s' k y _ w'.room.handled w'.hr hc G hx λv Y i rv a1 R=>?_;have a5:=a.off (t:=i) S a2 R;have a3:=ntw (itr.thereM k v ι' _ a1);refine itr.go tgt A _ ι' { s' with heap:=Y,toks:=i } k v _ ht a1 λh6 an r=>?_;have O:=a5.off (t:=i) S a3 r;refine aD (am y hx cv al A _ cenv ι' H' { s' with heap:=h6,toks:=i } v w'.room.handled O.p.hr O.e (VR.mono (S:=wr) (Kept.of_keeps r) a3 (af _) _ _ rv)) (λ_ s7 g=>g.el λau q7 e7 g=>?_) λ_ _ x=>x;refine c7 (g) λab nQ=>?_;clear g;revert nQ;intro g;refine aK (ab) λc s ai=>?_;clear ab;subst ai;have a7:=O.tgt S q7 e7;have a0:j (k+1) ι' s7.heap:=itr.mono _ _ _ _ _ _ an q7.kept (O.e.noTup O.p.hr) (af _) λb N m=>(S.own m).elim (S.wrD b N).2 (a.wrO b N);refine gb (Cj (w1.step a7.p) e7 g) λok s8 ad H8 q8 g=>?_;have M:=a7.post q8 (itr.there _ _ _ a0);have L:j (k+1) ad s8.heap:=itr.mono _ _ _ _ _ _ a0 q8.kept a7.p.hr.noTup q8.pre a7.wrO;cases ok with
  | false=>exact nx s (dY h) M L g
  | true =>
   refine gv (g A _ cenv ad s8 (w1.step M.p) M.e Acc.no) λu s9 ar H9 av q9 ap g=>?_;have a9:=M.post q9 (itr.there _ _ _ L);have ao:j (k+1) ar s9.heap:=itr.mono _ _ _ _ _ _ L q9.kept M.p.hr.noTup q9.pre M.wrO;refine wpAny_list_append_plain a9.pl (λak a4 ac=>?_) (by rw[aH,a9.rl.length];exact aa h (aa hk X));have f:∀b o,b∉[D]->s9.heap.get? b=some o->ak.get? b=some o:=λb o N eo=>ac.extBut b o (λz=>N (z▸yn rfl)) eo;exact nx s (by rw[aC];exact cL h) (a9.app S (List.push_toArray vs u▸a4) f ap) (itr.mono _ _ _ _ _ _ ao (Kept.of_keeps f) (zy a9.pl) (af _) λb N m=>(S.wrD b N).1 (yb m)) g
theorem GL {scope:Scope}(a:env.scope.kind=.function) (b:env.scope.names=C.names):(relabel scope env).names=om C.names scope.names:=by unfold relabel om cC;rw[a,b];exact cF λy c=>by simp
theorem Ee {scope:Scope}{locals:List Str}{cenv:Env}{Ca:Addr}{i:List (Str×Addr)}(h:CompOK C scope locals) (a:cenv.cells=i) (f:cenv.locals=Ca) (g:∀x c,i.lookup x=some c->(x,NameKind.free)∈scope.names):∀b∈own (jU C scope locals) cenv,b=Ca:=λb k=>by
 refine(yg k).elim (λq=>by rw[q,f]) λm=>?_;exfalso;refine aK (cz.mp m) λox e d=>?_;cases ox with
 | none=>cases d
 | some x =>
  have d:cenv.cells.lookup x=some b:=d;rw[a] at d;have l:some x∈locals.map some:=by
   have:(jU C scope locals).vars.drop (jU C scope locals).ro=locals.map some:=by show hF C.vars.length ((C.vars.map _)++locals.map some)=_;rw[c8 (by simp)];simp
   rw[this] at e;exact e
  refine aK (yh l) λy n j=>?_;cases j;have:=(h.locs x n).1;rw[zk h.nodup (g x b d)] at this;cases this
theorem Ed {scope:Scope}{locals:List Str}{env cenv:Env}{Ca:Addr}{v:List (Str×Addr)}{ι1:List Addr}{T:Hp}{s1:Shared}{K:Heap}{m:Str->Option Value}(p:CompOK C scope locals) (O:HR P.B ι1 T s1.heap) (f:EnvR P.B C env ι1 s1.heap loc)
  (a:compEnvC scope v Ca env=cenv) (H:∀y∈v,env.cells.lookup y.1=some y.2) (w:∀x,(x,NameKind.free)∈scope.names↔∃c,(x,c)∈v) (M:s1.heap.get? Ca=none) (Q:K.Ns Ca m) (m0:∀x,m x=none) (old:∀b o,s1.heap.get? b=some o->K.get? b=some o) :
  EnvR P.B (jU C scope locals) cenv ι1 K (loc++am locals.length none):=by
 have n:cenv.cells=v:=by rw[<-a];rfl
 have d:cenv.locals=Ca:=by rw[<-a];rfl
 have E:cenv.scope.names=om C.names scope.names:=by rw[<-a];exact GL f.kind f.names
 have g:∀x c,cenv.cells.lookup x=some c->env.cells.lookup x=some c/\(x,NameKind.free)∈scope.names:=λx c a =>
  have a:v.lookup x=some c:=n▸a
  ⟨H _ (mem_of_lookup a),(w x).mpr ⟨c,mem_of_lookup a⟩⟩
 have L:∀x k,(om C.names scope.names).lookup x=k->cenv.kindOf x=k:=λx k q=>by unfold cC;rw[E];exact q
 refine⟨by rw[<-a];exact p.kind,E,by rw[<-a];exact f.glob,by rw[<-a];exact f.blt,⟨_,d▸Q⟩,λq=>(O.mem q).elim λo I=>jO M (d▸I),d▸O.noB M,λx c Z a=>?_,λx c Z a=>?_,λx y c hx F a s=>?_,by simp[jU,f.len],λi x hi=>?_⟩
 ·have q:=g x c a;have R:=f.offC x c (p.free x q.2).1 q.1;exact⟨R.1,λz=>(f.isC x c (p.free x q.2).1 q.1).elim λG r=>aK r λo I _=>jO M (z.trans d▸I),R.2.2⟩
 ·have q:=g x c a;exact(f.isC x c (p.free x q.2).1 q.1).elim λG r=>⟨G,r.keeps old⟩
 ·have q:=g x c a;have r:=g y c s;exact f.apart x y c (p.free x q.2).1 (p.free y r.2).1 q.1 r.1
 ·by_cases j:i<C.vars.length
  ·have h:(C.vars.map λo=>o.bind λx=>if scope.names.lookup x == some .free then some x else none)[i]?=some (some x):=by rw[<-hi];show _=((C.vars.map _)++locals.map some)[i]?;rw[bJ (by simpa using j)]
   rw[aq] at h;refine aK (yf h) λox J D=>?_;refine aK (lE.mp D) λy F l=>?_;clear D;subst F
   by_cases e:(scope.names.lookup y == some .free)=true
   ·rw[if_pos e] at l;have:=yj l;subst this;have S:(y,NameKind.free)∈scope.names:=mem_of_lookup (by simpa using e);refine fT (p.free y S) λ_ X Y=>aK (f.vars i y J) λG hs hv=>?_;refine hs.elim (λq=>?_) λq=>aK q.2 λc U rc=>?_
    ·have k:=q.1;unfold cC at k;rw[f.names] at k;exact X.elim (λz=>by rw[z] at k;cases k) λz=>by rw[z] at k;cases k
    ·refine((w y).mp S).elim λc' s=>(zF s).elim λu A=>?_;have N:cenv.cells.lookup y=some u:=by rw[n];exact A
     have:=yj (U.symm.trans (g y u N).1);subst this;refine⟨G,.inr ⟨Y.imp (L _ _) (L _ _),c,N,rc.keeps old⟩,λdd t=>?_⟩;rw[bJ (by rw[f.len];exact j)] at t;exact aK (hv dd t) λv' V rv=>⟨v',V,VR.mono (oH old) n_ (af _) _ _ rv⟩
   ·rw[if_neg e] at l;cases l
  ·have h:(locals.map some)[i-C.vars.length]?=some (some x):=by rw[<-hi];show _=((C.vars.map _)++locals.map some)[i]?;rw[cW (by simpa using hV.mp j)];simp
   refine aK (yh (yc h)) λy F W=>?_;have:=yj W;subst this;refine⟨none,.inl ⟨L _ _ (p.locs y F).2,_,d▸Q,m0 y⟩,λdd t=>?_⟩;rw[cW (by rw[f.len];exact hV.mp j),lW] at t;split at t<;>simp at t
theorem zd {tt:Bool}{R tgt it:Expr}{G:List Expr}{scope:Scope}{locals:List Str}{pos:Pos}{V:Option (Value->Sem Unit)}{Qc:Value->Shared->Prop}{K:List AV->Hp->Prop}{A:Around}{E:Value->Shared->Prop}{env:Env}{ι:List Addr}{s:Shared}
  (M:CompOK C scope locals) (w:W P.B A d ι H s) (e:EnvR P.B C env ι s.heap loc) (a:Acc P A X ι s E)
  (ht:tt=true->nW tgt=true) (h:ItEv P tt C d it loc H (λitems Cnd H1=>items.length<=ag/\∃J:Nat->List AV->Hp->Prop,J 0 [] H1/\∀k l H,J k l H->Cnd H /\
   (∀y,items[k]?=some y->∀cv:Loc,cv.length=locals.length->TgOK P (jU C scope locals) tgt y (loc++cv) (λl'=>(∃a1:Loc,a1.length=locals.length/\l'=loc++a1)/\qR P (jU C scope locals) d G l' H (λb H' =>
    if b then EvOK P (jU C scope locals) d R l' H' (λv a9=>J (k+1) (l++[v]) a9) XF else J (k+1) l H'))) /\
   (k=items.length->K l H)) X)
  (hs:∀x,foldedSetIterable it env x=pure x)
  (fin:∀D Ca ι' H' l s' m,Post P.B ι s ι' H' s'->(∃vs,s'.heap.PlainList D (aW vs)/\VRs P.B s'.heap ι' l vs)->s.heap.get? D=none->s.heap.get? Ca=none->D∉ι'->Ca∉ι'->D≠Ca->s'.heap.Ns Ca m->l.length<=ag->K l H' ->
   compPost (model P.prog P.w) A E V Qc (.ref D) Ca (.ok .next) s') :
  aP (model P.prog P.w) A (comprehension (.ListComp R [⟨tgt,it,G,0⟩] scope pos) scope env it.pos (newList []) false (eval it env) V) Qc E s:=by
 refine eT (Gx (env:=env) (scope:=scope) λx hx=>?_) λcl ab a0 Q=>?_
 ·refine fT (M.free x hx) λq1 q2 _=>?_;refine cG (cQ q1) λi a5=>?_;refine cG (a5) λhi ei=>?_;clear a5;refine aK (e.vars i x (by rw[ak hi,ei])) λov hs _=>hs.elim (λq=>?_) λq=>q.2.elim λc r=>⟨c,r.1⟩;have k:=q.1;unfold cC at k;rw[e.names] at k;exact q2.elim (λz=>by rw[z] at k;cases k) λz=>by rw[z] at k;cases k
 refine wpAny_comprehension_free (g:=⟨tgt,it,G,0⟩) (gs:=[]) rfl hs ab M.kind (λx hx hl=>zk M.nodup (by rw[<-hl];exact hx)) (gi (h A E env ι s w e a) λv s0 ι1 H1 items Cnd s1 p1 io g=>?_);have ac:=g.1;refine aK g.2 λJ j0 a7=>?_;clear g;have Z:=w.step p1;have e1:=e.step w.hr p1;refine io E _ λI wr It ae h₂ tk itr a3 a8 k2=>?_;refine iN (wpAny_newFunctionEnv M.nocell (by intro y hy;simp at hy) (λY a2 u=>?_) M.kind) (by size_fits);generalize hD:h₂.objs.size=D at *;have a6:(h₂.push { cls:=.type "list",dict:=none,data:=.seq ([]:List Value).toArray }).objs.size=D+1:=by rw[jc,hD]
 have U:∀b o,h₂.get? b=some o->b<D:=λb o t=>hD▸ci t;have qD:(h₂.push { cls:=.type "list",dict:=none,data:=.seq ([]:List Value).toArray }).get? D=some { cls:=.type "list",dict:=none,data:=.seq ([]:List Value).toArray }:=by rw[<-hD];exact ba _ rfl
 generalize aa:(h₂.push { cls:=.type "list",dict:=none,data:=.seq ([]:List Value).toArray }).objs.size=Ca at *;have j:D<Ca:=by rw[a6];exact fO _
 have old:∀b o,h₂.get? b=some o->Y.get? b=some o:=λb o t=>u.extBut b o (bM (eP (U b o t) j)) (ay _ (ay _ t));have ad:Y.PlainList D (aW []):=⟨0,u.extBut D _ (bM j) (ay _ qD)⟩;have no:∀b,¬ b<D->s1.heap.get? b=none:=λb hb=>by
  cases z:s1.heap.get? b with
  | none=>rfl
  | some o=>exact absurd (U b o (k2 b o z)) hb
 clear u qD a6 hD aa;generalize f:compEnvC scope cl Ca env=cenv;have L:cenv.cells=cl:=by rw[<-f];rfl
 have S:CpS P (jU C scope locals) cenv ι1 H1 s1 wr D Ca:=by
  refine⟨Z.hr,λx c hc=>?_,Ee M L (by rw[<-f];rfl) λx c hc=>(Q x).mpr ⟨c,mem_of_lookup hc⟩,a8,λb hb=>?_,no D (c9 _),no Ca (kJ (aX j)),bM j,by rw[<-f];rfl⟩
  ·rw[L] at hc;exact(e1.isC x c (M.free x ((Q x).mpr ⟨c,mem_of_lookup hc⟩)).1 (a0 _ (mem_of_lookup hc))).elim λov r=>r.elim λo z=>⟨o,z.1⟩
  ·refine aK (itr.there 0 _ _ a3 b hb) λo t _=>?_;have:=U b o t;exact⟨bM this,bM (eP this j)⟩
 have O:∀b o,s1.heap.get? b=some o->Y.get? b=some o:=λb o t=>old b o (k2 b o t);have T:=Ed M Z.hr e1 f a0 Q S.nC a2 (λ_=>rfl) O;have a4:It 0 ι1 Y:=itr.mono 0 _ _ [] _ _ a3 (oH old) n_ (af _) (λ_ _=>cJ);have N:codeAny (model P.prog P.w) A (.compLoop (.ListComp R [⟨tgt,it,G,0⟩] scope pos) 0 (.ref I) (.ref D) cenv) (compPost (model P.prog P.w) A E V Qc (.ref D) Ca) { s1 with heap:=Y,toks:=tk }:=by
  refine GG (CpI P (jU C scope locals) cenv ι1 s1 wr D It loc locals.length items.length J) (λn s' F hI=>Fu S Z itr ht ac a7 (λι' H' l vs s' lc a hl hk=>a.e.ns.elim λm5 n5=>?_) hI) (items.length+1)
   ⟨0,ι1,H1,[],[],am locals.length none,rfl,cX _,cX _,mE,⟨Post.keep Z.hr O,T,ad,rfl,λb hb m=>(Z.hr.mem m).elim λo t=>jO (a8 b hb) t,λm=>(Z.hr.mem m).elim λo t=>jO S.nD t⟩,a4,j0⟩
  exact fin D Ca ι' H' l s' m5 (p1.trans a.p) ⟨vs,a.pl,a.rl⟩ (p1.gone S.nD) (p1.gone S.nC) a.dO (S.loc▸a.e.offL) S.ne (S.loc▸n5) hl hk
 subst f;refine codeAny_compStart_list N ?_;exact itr.self A _ ι1 { s1 with heap:=Y,toks:=tk } 0 _ a4 N
end Mine
namespace Mine
open PySem
variable {P:PEnv}{C:Ctx}{d:Nat}{loc:Loc}{H:Hp}{X:XP}
theorem HR.adopt {H:Hp}(q:HR B ι H h){a:Addr}(f:a∉ι) (g:B.get? a=none){o:AObj}(j:OR B h (ι++[a]) a o):HR B (ι++[a]) (H++[o]) h:=by
 refine⟨q.base,λb m=>?_,?_,by simp[q.len],λi x e=>?_⟩
 ·rcases yd m with m|m
  ·exact q.fresh b m
  ·rw[yb m];exact g
 ·refine dU.mpr ⟨q.nodup,by simp,λx k y l e=>?_⟩;have:=yb l;subst this;subst e;exact f k
 ·by_cases hi:i<H.length
  ·rw[bJ hi] at e;refine aK (q.objs i x e) λb d r=>?_;exact⟨b,ou (bE _ _) d,r.mono (Kept.refl [] h) n_ (bE _ _) λ_ e=>e⟩
  ·rw[cW (hV.mp hi)] at e;have c:i-H.length=0:=by
    cases z:i-H.length with
    | zero=>rfl
    | succ n=>rw[z] at e;simp at e
   rw[c] at e;simp only[iG,dR] at e;subst e;refine⟨a,?_,j⟩;have:i=ι.length:=by rw[q.len];exact z94 hi c
   subst this;simp
theorem Post.adopt {H':Hp}(p:Post B ι s ι' H' s'){a:Addr}(c:a∉ι') (f:s.heap.get? a=none) (d:B.get? a=none){o:AObj}(e:OR B s'.heap (ι'++[a]) a o):Post B ι s (ι'++[a]) (H'++[o]) s' :=
 ⟨p.pre.trans (bE _ _),p.hr.adopt c d e,p.kept,λb m=>(yd m).elim (p.new b) λz=>.inr (by rw[yb z];exact f),p.same⟩
def tM (P:PEnv) (tt:Bool) (C:Ctx) (d:Nat) (elt tgt it:Expr) (ifs:List Expr) (scope:Scope) (locals:List Str) (loc:Loc) (H:Hp) (K:List AV->Hp->Prop) (X:XP):Prop :=
 ItEv P tt C d it loc H (λitems Cnd H₁=>items.length<=ag/\∃J:Nat->List AV->Hp->Prop,J 0 [] H₁/\∀k l H,J k l H->Cnd H /\
   (∀y,items[k]?=some y->∀cv:Loc,cv.length=locals.length->TgOK P (jU C scope locals) tgt y (loc++cv) (λl'=>(∃cv':Loc,cv'.length=locals.length/\l'=loc++cv')/\qR P (jU C scope locals) d ifs l' H (λb H' =>
    if b then EvOK P (jU C scope locals) d elt l' H' (λv H''=>J (k+1) (l++[v]) H'') XF else J (k+1) l H'))) /\
   (k=items.length->K l H)) X
theorem xy {tt:Bool}{g tgt it:Expr}{k:List Expr}{scope:Scope}{locals:List Str}{pos:Pos}{Q:AV->Hp->Prop}(N:CompOK C scope locals)
  (U:tt=true->nW tgt=true) (h:tM P tt C d g tgt it k scope locals loc H (λl H'=>Q (.ref H'.length) (H'++[.list l])) X) (T:∀env x,foldedSetIterable it env x=pure x) :
  EvOK P C d (.ListComp g [⟨tgt,it,k,0⟩] scope pos) loc H Q X:=λA E env ι s w e a=>by
 refine zd N w e a U h (T env) λD Ca ι' H' l s' m p G L K R M r u Y S=>?_;refine⟨m,u,λh' W=>?_⟩;have y:∀b,s.heap.get? b=none->P.B.get? b=none:=λb c=>by
  cases z:P.B.get? b with
  | none=>rfl
  | some o=>have:=w.hr.base b o z;rw[c] at this;cases this
 refine aK (G) λvs pl V=>?_;clear G;have f:∀b o,b∉[Ca]->s'.heap.get? b=some o->h'.get? b=some o:=λb o c i=>W.extBut b o (λz=>c (z▸yn rfl)) i;have I:kD [Ca] s'.heap:=λb c Z t=>by rw[yb c] at t;refine eT (t) λo' j _ q=>?_;clear t;refine cG (q) λn F=>?_;clear q;refine kM (u) λo es ep i O _=>?_;clear u;rw[i] at j;cases j;rw[O] at F;cases F
 have J:Post P.B ι s ι' H' { s' with heap:=h',toks:=s'.toks }:=p.off f I (λb c=>by rw[yb c];exact M) (λb c=>by rw[yb c];exact K) (λb c=>by rw[yb c];exact y _ K);have v:h'.PlainList D vs.toArray:=pl.at λo i=>f D o (λz=>r (yb z)) i;refine⟨ι'++[D],H'++[.list l],.ref H'.length,J.adopt (o:=.list l) R L (y _ L) ⟨vs,v,VRs.mono (Kept.of_keeps f) I (bE _ _) _ _ V⟩,⟨D,rfl,?_⟩,S⟩;rw[<-J.hr.len];simp
theorem ex_assign' {x:Str}{v:Expr}{f:Pos}{Q:MFlow->Loc->Hp->Prop}(b:Slot C i x) (h:EvOK P C d v loc H (λa H'=>Q .next (loc.set i (some a)) H') XF)
  (k:∀env:Env,env.scope.kind=.function->env.scope.names=C.names->dQ v (some (.Name x f)) pos.line env=pure false):ExOK P C d (.Assign [.Name x f] v pos) loc H Q:=λA E env ι s w e=>by
 refine gH (gv (h A E env ι s w e Acc.no) (λu s1 ι1 j a p1 l g=>?_)) (k env e.kind e.names);exact qx p1.hr (e.step w.hr p1) b.lo b.at_ b.uniq b.kind l λs' ps c=>⟨ι1,j,_,.next,PostS.trans p1.toS ps c.offOwn,c,rfl,g⟩
theorem GY {tt:Bool}{r tgt it:Expr}{v:List Expr}{scope:Scope}{locals:List Str}{a J pos:Pos}{i:Nat}{x:Str}{Q:MFlow->Loc->Hp->Prop}(T:Slot C i x) (cg:CompOK C scope locals)
  (ht:tt=true->nW tgt=true) (h:tM P tt C d r tgt it v scope locals loc H (λl H'=>Q .next (loc.set i (some (.ref H'.length))) (H'++[.list l])) XF) (hs:∀env x,foldedSetIterable it env x=pure x) :
  ExOK P C d (.Assign [.Name x J] (.ListComp r [⟨tgt,it,v,0⟩] scope a) pos) loc H Q:=by
 have sw:∀env:Env,env.scope.kind=.function->env.scope.names=C.names->dQ (.ListComp r [⟨tgt,it,v,0⟩] scope a) (some (.Name x J)) pos.line env=pure (C.names.lookup x == some .local&&J.line == a.line&&!(scope.names.any λ(n,k)=>n == x&&(k == .local||k == .cell))):=λenv N O=>by show(pure (env.blockKind == .function&&env.kindOf x == some .local&&J.line == a.line&&!(scope.names.any λ(n,k)=>n == x&&(k == .local||k == .cell))):Sem Bool)=_;simp only[Env.blockKind,cC,N,O];rfl
 cases g:(C.names.lookup x == some .local&&J.line == a.line&&!(scope.names.any λ(n,k)=>n == x&&(k == .local||k == .cell))) with
 | false=>exact ex_assign' T (xy cg ht h hs) λenv N O=>by rw[sw env N O,g]
 | true =>
  intro A E env ι s w e;rw[exec_Assign_Name_used x J _ pos (by rw[sw env e.kind e.names,g])];refine ad (fG (ad ?_));show aP _ _ (comprehension (.ListComp r [⟨tgt,it,v,0⟩] scope a) scope env it.pos (newList []) false (eval it env) (some (assign (.Name x J) env)) >>= λ_=>pure PUnit.unit) _ _ _;refine ad ?_;refine zd (Qc:=λ_ s'=>aP (model P.prog P.w) A (pure PUnit.unit:Sem PUnit) (λ_ j=>aP (model P.prog P.w) A (pure .next:Sem Flow) (GivesS P.B C env ι s Q) E j) E s') cg w e Acc.no ht h (hs env) λD Ca ι' H' l s' m p hd sD W dO cO X ns hl N=>?_;have bN:∀b,s.heap.get? b=none->P.B.get? b=none:=λb g=>by
   cases z:P.B.get? b with
   | none=>rfl
   | some o=>have:=w.hr.base b o z;rw[g] at this;cases this
  refine aK (hd) λvs pl rl=>?_;clear hd;have pa:Post P.B ι s (ι'++[D]) (H'++[.list l]) s':=p.adopt dO sD (bN _ sD) ⟨vs,pl,VRs.mono (Kept.refl [] _) n_ (bE _ _) _ _ rl⟩;have ea:=e.step w.hr pa;have L:Ca∉own C env:=λm=>by refine aK (e.isOwn Ca m) λo f _=>?_;rw[W] at f;cases f
  have K:Ca∉ι'++[D]:=λm=>(yd m).elim cO λz=>X (yb z).symm;have vr:VR P.B s'.heap (ι'++[D]) (.ref H'.length) (.ref D):=⟨D,rfl,by rw[<-p.hr.len];simp⟩;refine k7 (qx pa.hr ea T.lo T.at_ T.uniq T.kind vr λj ps M=>?_)
  -- the comprehension's own table stands as it stood
  have F:∃m,j.heap.Ns Ca m:=⟨m,Ns.of_data ns λo f=>by
   refine eT (ps.kept.data f λq=>(yd q).elim L K) λo' u U _=>?_;exact⟨o',u,U⟩⟩
  refine cG (F) λZ I=>?_;clear F;refine⟨Z,I,λh' sb=>aJ (aJ ?_)⟩;have G:∀b o,b∉[Ca]->j.heap.get? b=some o->h'.get? b=some o:=λb o g f=>sb.extBut b o (λz=>g (z▸yn rfl)) f;have nt:kD [Ca] j.heap:=λb g us t=>by rw[yb g] at t;refine eT (t) λo' u _ R=>?_;clear t;refine cG (R) λn U=>?_;clear R;refine kM (I) λo es ep f d1 _=>?_;clear I;rw[f] at u;cases u;rw[d1] at U;cases U
  have Y:HR P.B (ι'++[D]) (H'++[.list l]) h':=ps.hr.off G nt (λb g=>by rw[yb g];exact K) (λb g=>by rw[yb g];exact bN _ W);have e3:EnvR P.B C env (ι'++[D]) h' (loc.set i (some (.ref H'.length))):=M.off G nt (λz=>L ((yb z)▸aR ..)) (λy c hm hc z=>by
   refine kB (e.isC y c hm hc) λov o f _=>?_;rw[yb z,W] at f;cases f)
  have V:=PostS.trans (pa.toS (S:=own C env)) ps M.offOwn;refine⟨ι'++[D],H'++[.list l],loc.set i (some (.ref H'.length)),.next,⟨V.pre,Y,λb o f O=>?_,V.new,?_⟩,e3,rfl,N⟩
  ·refine aK (V.kept b o f O) λa0 e1 q1=>?_;exact⟨a0,G b _ (λz=>by rw[yb z,W] at f;cases f) e1,q1⟩
  ·exact V.same
end Mine
namespace Mine
open PySem
variable {P:PEnv}{C:Ctx}{d:Nat}{loc:Loc}{H:Hp}{X:XP}
theorem vrs1 {B h:Heap}{ι:List Addr}{x:AV}{vs:List Value}(r:VRs B h ι [x] vs):∃u,vs=[u]/\VR B h ι x u:=by refine eX (r) λu t a b c=>?_;clear r;subst a;exact⟨u,by rw[show t=[] from c],b⟩
theorem vrs2 {B h:Heap}{ι:List Addr}{x y:AV}{vs:List Value}(r:VRs B h ι [x,y] vs):∃u v,vs=[u,v]/\VR B h ι x u/\VR B h ι y v:=by refine eX (r) λu t b c d=>?_;clear r;subst b;refine aK (vrs1 d) λv a e=>?_;subst a;exact⟨u,v,rfl,c,e⟩
abbrev oi (P:PEnv) (d:Nat) (op:Operator) (x y:AV) (H:Hp) (Q:AV->Hp->Prop):Prop:=OpOK P d (λvs=>binaryOp op (vs.getD 0 .none) (vs.getD 1 .none)) [x,y] H Q
abbrev kP (P:PEnv) (d:Nat) (op:CmpOp) (x y:AV) (H:Hp) (Q:AV->Hp->Prop):Prop:=OpOK P d (λvs=>compareOp op (vs.getD 0 .none) (vs.getD 1 .none)) [x,y] H Q
theorem op2 {t:Value->Value->Sem Value}{x y:AV}{Q:AV->Hp->Prop}(h:∀A E ι s u v,W P.B A d ι H s->VR P.B s.heap ι x u->VR P.B s.heap ι y v->aP (model P.prog P.w) A (t u v) (Gives P.B ι s Q) E s) :
  OpOK P d (λvs=>t (vs.getD 0 .none) (vs.getD 1 .none)) [x,y] H Q:=λA E ι s vs w r=>by
 refine eX (vrs2 r) λu v a b c=>?_;subst a;exact h A E ι s u v w b c
theorem B5 {Q:AV->Hp->Prop}(h:Q (.int (a+b)) H):oi P d .Add (.int a) (.int b) H Q:=op2 λA E ι s u v w c e=>by obtain⟨t,rfl⟩:=c;obtain⟨t',rfl⟩:=e;exact PyProof.Rows.add_int (Gives.now _ w.hr (VR.mkInt _ _) h)
theorem CP {Q:AV->Hp->Prop}(h:Q (.int (a-b)) H):oi P d .Sub (.int a) (.int b) H Q:=op2 λA E ι s u v w c e=>by obtain⟨t,rfl⟩:=c;obtain⟨t',rfl⟩:=e;exact PyProof.Rows.sub_int (Gives.now _ w.hr (VR.mkInt _ _) h)
theorem B7 {Q:AV->Hp->Prop}(c:IntMulOk a b) (h:Q (.int (a*b)) H):oi P d .Mult (.int a) (.int b) H Q:=op2 λA E ι s u v w e f=>by obtain⟨t,rfl⟩:=e;obtain⟨t',rfl⟩:=f;exact PyProof.Rows.mul_int (Gives.now _ w.hr (VR.mkInt _ _) h) c
theorem B6 {Q:AV->Hp->Prop}(c:b≠0) (h:Q (.int (a.fmod b)) H):oi P d .Mod (.int a) (.int b) H Q:=op2 λA E ι s u v w e f=>by obtain⟨t,rfl⟩:=e;obtain⟨t',rfl⟩:=f;exact PyProof.Rows.mod_int' c (Gives.now _ w.hr (VR.mkInt _ _) h)
theorem D7 {Q:AV->Hp->Prop}(c:b≠0) (e:Builtin.divisionGoesByPylong a b=false) (h:Q (.int (a.fdiv b)) H):oi P d .FloorDiv (.int a) (.int b) H Q:=op2 λA E ι s u v w f g=>by obtain⟨t,rfl⟩:=f;obtain⟨t',rfl⟩:=g;exact PyProof.Rows.floordiv_int c (Gives.now _ w.hr (VR.mkInt _ _) h) (.inl e)
theorem B8 {n:Int}{Q:AV->Hp->Prop}(e:0<=n) (b:n<=1000000) (c:a.natAbs<2^64) (h:Q (.int (a^n.toNat)) H):oi P d .Pow (.int a) (.int n) H Q:=op2 λA E ι s u v w f g=>by obtain⟨t,rfl⟩:=f;obtain⟨t',rfl⟩:=g;exact PyProof.Rows.pow_int_small e b c (Gives.now _ w.hr (VR.mkInt _ _) h)
theorem AP {Q:AV->Hp->Prop}(h:Q (.bool (decide (a<b))) H):kP P d .Lt (.int a) (.int b) H Q:=op2 λA E ι s u v w c e=>by obtain⟨t,rfl⟩:=c;obtain⟨t',rfl⟩:=e;exact PyProof.Rows.lt_int (Gives.same w.hr (VR.mkBool _) h)
theorem AO {Q:AV->Hp->Prop}(h:Q (.bool (decide (a<=b))) H):kP P d .LtE (.int a) (.int b) H Q:=op2 λA E ι s u v w c e=>by obtain⟨t,rfl⟩:=c;obtain⟨t',rfl⟩:=e;exact PyProof.Rows.le_int (Gives.same w.hr (VR.mkBool _) h)
theorem Bh {Q:AV->Hp->Prop}(h:Q (.bool (decide (b<a))) H):kP P d .Gt (.int a) (.int b) H Q:=op2 λA E ι s u v w c e=>by obtain⟨t,rfl⟩:=c;obtain⟨t',rfl⟩:=e;exact PyProof.Rows.gt_int (Gives.same w.hr (VR.mkBool _) h)
theorem Bg {Q:AV->Hp->Prop}(h:Q (.bool (decide (b<=a))) H):kP P d .GtE (.int a) (.int b) H Q:=op2 λA E ι s u v w c e=>by obtain⟨t,rfl⟩:=c;obtain⟨t',rfl⟩:=e;exact PyProof.Rows.ge_int (Gives.same w.hr (VR.mkBool _) h)
theorem HR.list {H:Hp}(q:HR B ι H h){a:Addr}{l:List AV}(e:ι[i]?=some a) (hi:H[i]?=some (.list l)):∃vs,h.PlainList a (aW vs)/\VRs B h ι l vs:=by refine aK (q.objs i _ hi) λc b r=>?_;rw[e] at b;cases b;exact r
noncomputable def seqL (H:Hp):AV->Option (List AV)
 | .ref i=>match H[i]? with|some (.list l)=>some l|_=>none
 | .fro l=>some l
 | _=>none
theorem oD {ι:List Addr}{h:Heap}{x:AV}{v:Value}{l:List AV}(f:HR P.B ι H h) (r:VR P.B h ι x v) (e:seqL H x=some l):∃a vs,v=.ref a/\h.IsList a (aW vs)/\VRs P.B h ι l vs:=by
 cases x with
 | ref i =>
  refine aK (r) λa b j=>?_;clear r;subst b;simp only[seqL] at e;split at e
  ·rename_i n m;cases e;refine aK (f.list j m) λvs pl d=>?_;exact⟨a,vs,rfl,pl.isList,d⟩
  ·cases e
 | fro n =>
  simp only[seqL,dR] at e;subst e;refine eX (r) λa vs c g d=>?_;clear r;subst c;exact⟨a,vs,rfl,g.at λo k=>f.base a o k,d⟩
 | _=>simp[seqL] at e
theorem D4 {i j:Nat}{l m:List AV}{Q:AV->Hp->Prop}(r:H[i]?=some (.list l)) (t:H[j]?=some (.list m)) (x:l.length+m.length<=ag) (h:Q (.ref H.length) (H++[.list (l++m)])):oi P d .Add (.ref i) (.ref j) H Q:=op2 λA E ι s u v w f g=>by refine aK (f) λa e p=>?_;clear f;subst e;refine aK (g) λb e q=>?_;clear g;subst e;refine aK (w.hr.list p r) λvs c k=>?_;refine cG (c) λn pl=>?_;clear c;refine aK (w.hr.list q t) λws c o=>?_;refine cG (c) λz y=>?_;clear c;refine PySem.P.add_list pl y ?_ (by simp only[aH,k.length,o.length];exact x);have:=vx (Q:=Q) w.hr (k.append o) h;simpa using this
theorem D6 {l m:List AV}{Q:AV->Hp->Prop}(C:l.length+m.length<=ag) (h:Q (.tup (l++m)) H):oi P d .Add (.tup l) (.tup m) H Q:=op2 λA E ι s u v w q t=>by
 have r:=q;have x:=t;refine eX (q) λa vs f c z=>?_;clear q;subst f;refine mJ (c) λn dd y pl=>?_;clear c;refine eX (t) λb ws f c B=>?_;clear t;subst f;refine mJ (c) λp e j k=>?_;clear c;have g:=z.length;have i:=B.length
 by_cases hv:vs=[]
 ·have:l=[]:=by rw[hv] at g;exact bI.mp g.symm
  subst this;exact concat_meets ⟨_,pl,rfl⟩ ⟨_,k,rfl⟩ noFill_tuple_add seq_tuple_add PySem.F.slot_tuple_add PySem.F.entry_tuple_add (PySem.F.args_tuple_add_2 _ _)
   (PyProof.Rows.tuple_addW0 a b vs.toArray ws.toArray n p dd e y j (by simp[hv])) ⟨pl,k,Gives.same w.hr x (by simpa using h)⟩
 ·by_cases o:ws=[]
  ·have:m=[]:=by rw[o] at i;exact bI.mp i.symm
   subst this;exact concat_meets ⟨_,pl,rfl⟩ ⟨_,k,rfl⟩ noFill_tuple_add seq_tuple_add PySem.F.slot_tuple_add PySem.F.entry_tuple_add (PySem.F.args_tuple_add_2 _ _)
    (PyProof.Rows.tuple_addW1 a b vs.toArray ws.toArray n p dd e y j (by simpa using hv) (by simp[o])) ⟨pl,k,Gives.same w.hr r (by simpa using h)⟩
  ·refine concat_meets ⟨_,pl,rfl⟩ ⟨_,k,rfl⟩ noFill_tuple_add seq_tuple_add PySem.F.slot_tuple_add PySem.F.entry_tuple_add (PySem.F.args_tuple_add_2 _ _)
    (PyProof.Rows.tuple_addW2 a b vs.toArray ws.toArray n p dd e y j (by simpa using hv) (by simpa using o) (by simp only[aH,g,i];exact C)) ⟨pl,k,?_⟩
   have:=vD (Q:=Q) w.hr (z.append B) h;simpa using this
theorem D5 {x y:Str}{Q:AV->Hp->Prop}(a:x.length+y.length<=ag) (h:Q (.str (x++y)) H):oi P d .Add (.str x) (.str y) H Q:=op2 λA E ι s u v w b c=>by obtain⟨k1,t,rfl⟩:=b;obtain⟨k2,t',rfl⟩:=c;refine PyProof.Rows.add_str (λt' e=>Gives.now e w.hr (VR.mkStr _ _ ?_) h) a;unfold ff at k1 k2 ⊢;simp only[Str.cps_append,Array.all_append,k1,k2,jF]
mutual
noncomputable def datR (ρ:Nat->Option PyData):AV->Option PyData
 | .none=>some .none
 | .bool b=>some (.bool b)
 | .int i=>some (.int i)
 | .str x=>some (.str x)
 | .tup l=>(datRs ρ l).map .tuple
 | .ref i=>ρ i
 | .fro l=>(datRs ρ l).map .list
 | .obj _=>none
noncomputable def datRs (ρ:Nat->Option PyData):List AV->Option (List PyData)
 | []=>some []
 | x::r=>(datR ρ x).bind λy=>(datRs ρ r).map (y::·)
end
noncomputable def rho (H:Hp):Nat->Nat->Option PyData
 | 0,_=>none
 | n+1,i=>match H[i]? with
  | some (.list l)=>(datRs (rho H n) l).map .list
  | _=>none
noncomputable def dat (H:Hp) (x:AV):Option PyData:=datR (rho H 4) x
noncomputable def dats (H:Hp) (l:List AV):Option (List PyData):=datRs (rho H 4) l
def tj (P:PEnv) (ι:List Addr) (h:Heap) (ρ:Nat->Option PyData):Prop:=∀i d a,ρ i=some d->ι[i]?=some a->(∃as,Reads h (.ref a) d as)/\d.canLay0=true
mutual
theorem w8 {ι:List Addr}{h:Heap}{ρ:Nat->Option PyData}(B:P.B.StaysIn h) (k:tj P ι h ρ):∀(x:AV) (v:Value) (d:PyData),VR P.B h ι x v->datR ρ x=some d->(∃as,Reads h v d as)/\d.canLay0=true
 | .none,_,_,r,e=>by cases r;cases e;exact⟨⟨_,Reads.none⟩,rfl⟩
 | .bool b,_,_,r,e=>by cases r;cases e;exact⟨⟨_,Reads.bool b⟩,rfl⟩
 | .int i,_,_,r,e=>by obtain⟨t,rfl⟩:=r;cases e;exact⟨⟨_,Reads.int i t⟩,rfl⟩
 | .str x,_,_,r,e=>by obtain⟨C,t,rfl⟩:=r;cases e;exact⟨⟨_,Reads.str x t⟩,C⟩
 | .tup l,v,d,r,e=>by refine eX (r) λa vs f c u=>?_;clear r;subst f;refine mJ (c) λn _ _ E=>?_;clear c;simp only[datR,d5] at e;refine aK (e) λj m f=>?_;clear e;subst f;refine c7 (datRs_ok B k l vs j u m) λg s=>?_;refine cG (g) λas q=>?_;clear g;exact⟨⟨as,Reads.tuple E rfl rfl q⟩,s⟩
 | .ref i,v,d,r,e=>by refine aK (r) λa p w=>?_;clear r;subst p;exact k i d a e w
 | .fro l,v,d,r,e=>by refine eX (r) λa vs f c u=>?_;clear r;subst f;refine eT (c) λo y z D=>?_;clear c;revert D;intro c;refine cG (c) λn A=>?_;clear c;simp only[datR,d5] at e;refine aK (e) λj m f=>?_;clear e;subst f;refine c7 (datRs_ok B k l vs j u m) λg s=>?_;refine cG (g) λas q=>?_;clear g;exact⟨⟨_,Reads.list (B a o y) z A q⟩,s⟩
 | .obj _,_,_,_,e=>by cases e
theorem datRs_ok {ι:List Addr}{h:Heap}{ρ:Nat->Option PyData}(B:P.B.StaysIn h) (k:tj P ι h ρ):∀(l:List AV) (vs:List Value) (d:List PyData),VRs P.B h ι l vs->datRs ρ l=some d->(∃as,ReadsAll h vs d as)/\jH d=true
 | [],_,_,r,e=>by rw[show _=[] from r];cases e;exact⟨⟨_,ReadsAll.nil⟩,rfl⟩
 | x::l,_,d,r,e=>by refine eX (r) λv vs b o p=>?_;clear r;subst b;simp only[datRs,lE,d5] at e;refine aK (e) λy f c=>?_;clear e;refine aK (c) λys g b=>?_;clear c;subst b;refine c7 (w8 B k x v y o f) λa j=>?_;refine cG (a) λas i=>?_;clear a;refine c7 (datRs_ok B k l vs ys p g) λa n=>?_;refine cG (a) λbs m=>?_;clear a;exact⟨⟨_,ReadsAll.cons i m⟩,by simp[jH,j,n]⟩
end
theorem t7 {ι:List Addr}{h:Heap}(g:HR P.B ι H h):∀n,tj P ι h (rho H n)
 | 0,_,_,_,e,_=>by cases e
 | n+1,i,d,a,e,ea=>by
  unfold rho at e;split at e
  ·rename_i l o;simp only[d5] at e;refine aK (e) λj m f=>?_;clear e;subst f;refine aK (g.list ea o) λvs c r=>?_;refine cG (c) λk pl=>?_;clear c;refine c7 (datRs_ok g.base (t7 g n) l vs j r m) λb q=>?_;refine cG (b) λas p=>?_;clear b;exact⟨⟨_,Reads.list pl rfl rfl p⟩,q⟩
  ·cases e
theorem pg {x:AV}{v:Value}{dd:PyData}(a:HR P.B ι H h) (r:VR P.B h ι x v) (e:dat H x=some dd):(∃as,Reads h v dd as)/\dd.canLay0=true :=
 w8 a.base (t7 a 4) x v dd r e
theorem sA {l:List AV}{a:List PyData}(b:HR P.B ι H h) (r:VRs P.B h ι l vs) (e:dats H l=some a):(∃as,ReadsAll h vs a as)/\jH a=true :=
 datRs_ok b.base (t7 b 4) l vs a r e
theorem Bf {x y:AV}{b c:PyData}{Q:AV->Hp->Prop}(f:dat H x=some b) (g:dat H y=some c) (e:b.depth<=100) (h:Q (.bool (bu b c)) H):kP P d .Eq x y H Q:=op2 λA E ι s u v w m n=>by refine c7 (pg w.hr m f) λa j=>?_;refine cG (a) λas i=>?_;clear a;refine c7 (pg w.hr n g) λa l=>?_;refine cG (a) λbs k=>?_;clear a;exact SeqAt.compareEq_reads i k j l (by have:=w.room.units;exact z96 e this) (Gives.same w.hr (VR.mkBool _) h)
theorem AQ {x y:AV}{b c:PyData}{Q:AV->Hp->Prop}(f:dat H x=some b) (g:dat H y=some c) (e:b.depth<=100) (h:Q (.bool !(bu b c)) H):kP P d .NotEq x y H Q:=op2 λA E ι s u v w m n=>by refine c7 (pg w.hr m f) λa j=>?_;refine cG (a) λas i=>?_;clear a;refine c7 (pg w.hr n g) λa l=>?_;refine cG (a) λbs k=>?_;clear a;exact SeqAt.compareNe_reads i k j l (by have:=w.room.units;exact z96 e this) (Gives.same w.hr (VR.mkBool _) h)
end Mine
namespace Mine
open PySem
variable {P:PEnv}{C:Ctx}{d:Nat}{loc:Loc}{H:Hp}{X:XP}
theorem fn1 {f:Value}{x:AV}{Q:AV->Hp->Prop}(h:∀A E ι s u,W P.B A d ι H s->VR P.B s.heap ι x u->aP (model P.prog P.w) A (call f [u]) (Gives P.B ι s Q) E s) :
  OpOK P d (λvs=>call f vs) [x] H Q:=λA E ι s vs w r=>by
 refine aK (vrs1 r) λu a b=>?_;subst a;exact h A E ι s u w b
theorem fn2 {f:Value}{x y:AV}{Q:AV->Hp->Prop}(h:∀A E ι s u v,W P.B A d ι H s->VR P.B s.heap ι x u->VR P.B s.heap ι y v->aP (model P.prog P.w) A (call f [u,v]) (Gives P.B ι s Q) E s) :
  OpOK P d (λvs=>call f vs) [x,y] H Q:=λA E ι s vs w r=>by
 refine eX (vrs2 r) λu v a b c=>?_;subst a;exact h A E ι s u v w b c
theorem rB (e:Expr) (o i:Value):∃d,subscripted e false o i=operate d (getItem o i):=by
 cases e with
 | Slice a b c p=>cases c<;>exact⟨_,rfl⟩
 | _=>exact⟨_,rfl⟩
abbrev pH (P:PEnv) (d:Nat) (eo ei:Expr) (x y:AV) (H:Hp) (Q:AV->Hp->Prop):Prop:=OpOK P d (λvs=>PyProof.Rows.subscriptTail eo ei (vs.getD 0 .none) (vs.getD 1 .none)) [x,y] H Q
noncomputable def place (k:Int) (n:Nat):Option Nat:=if 0<=k then (if k<n then some k.toNat else none) else if 0<=k+n then some (k+n).toNat else none
theorem G3 {k:Int}{n:Nat}(h:place k n=some j):seqIndex? k n=some j:=by
 unfold place at h;unfold seqIndex?
 by_cases a:0<=k
 ·rw[if_pos a] at h;rw[if_neg (ie.mpr a)]
  by_cases b:k<n
  ·rw[if_pos b] at h;exact(if_pos (by rw[decide_eq_true a,decide_eq_true b];rfl)).trans h
  ·rw[if_neg b] at h;cases h
 ·rw[if_neg a] at h;have a:=Int.not_le.mp a;rw[if_pos a]
  by_cases b:0<=k+n
  ·rw[if_pos b] at h;exact(if_pos (by rw[decide_eq_true b,decide_eq_true (show k+n<n by have:=nP a n;rwa [Int.zero_add] at this)];rfl)).trans h
  ·rw[if_neg b] at h;cases h
theorem Dx {p f:Expr}{l:List AV}{k:Int}{j:Nat}{x:AV}{Q:AV->Hp->Prop}(D:l.length<2^62) (b:place k l.length=some j) (r:l[j]?=some x) (h:Q x H):pH P d p f (.tup l) (.int k) H Q:=op2 λA E ι s u v w m n=>by
 refine eX (m) λa vs e i o=>?_;clear m;subst e;refine cG (n) λt c=>?_;clear n;subst c;refine aK (o.get r) λz y C=>?_;refine cG (rB f (.ref a) (.int k t)) λB q=>?_;have g : -(2^63)<=k/\k<2^63:=by unfold place at b;split at b<;>(try split at b)<;>(first|cases b|skip)<;>lia
 exact PyProof.Rows.tail_any i.isTup.typeIs PyProof.Rows.slot_tuple_getitem.lookup (PyProof.Rows.getItem_tuple i.isTup g.1 g.2 (by rw[aH,o.length];exact G3 b) (by simpa using y) (Gives.same w.hr C h)) q
theorem EV {n g:Expr}{o:AV}{l:List AV}{k:Int}{x:AV}{Q:AV->Hp->Prop}(r:seqL H o=some l) (q:l.length<2^62) (p:0<=k) (i:l[k.toNat]?=some x) (h:Q x H):pH P d n g o (.int k) H Q:=op2 λA E ι s u v w C m=>by refine eX (oD w.hr C r) λa vs e j D=>?_;subst e;refine cG (m) λt c=>?_;clear m;subst c;refine aK (D.get i) λz y F=>?_;refine cG (rB g (.ref a) (.int k t)) λB b=>?_;have f:k.toNat<l.length:=(ym i).1;exact PyProof.Rows.tail_any j.typeIs slot_list_getitem.lookup (wpAny_getItem_list j p (by exact z97 q f) (by simpa using y) (Gives.same w.hr F h)) b
theorem ERs.pairs (P:PEnv){B h:Heap}{ι:List Addr}:∀{l:List (Int×AV)}{es:List DictEntry},ERs B h ι l es->∃kvs:List (Int×Value),Pairs (intKind P.prog P.w) es kvs/\kvs.map (·.1)=l.map (·.1)/\VRs B h ι (l.map (·.2)) (kvs.map (·.2))/\∀e∈es,∃k,(intKind P.prog P.w).is k e.key=true/\e.hash=(intKind P.prog P.w).hash k
 | [],es,q=>⟨[],by rw[show es=[] from q];exact .nil,rfl,rfl,λe a=>by rw[show es=[] from q] at a;cases a⟩
 | (k,x)::l,es,q=>by
  refine kM (q) λt v d b f r=>?_;clear q;subst b;refine lB (ERs.pairs P r) λkvs p1 p2 p3 p4=>?_;have c:(intKind P.prog P.w).is k (.int k t)=true:=by simp[intKind,gF]
  refine⟨(k,v)::kvs,.cons c rfl p1,by simp[p2],⟨v,_,rfl,f,p3⟩,λe a=>?_⟩;rcases yg a with rfl|m
  ·exact⟨k,c,rfl⟩
  ·exact p4 e m
theorem FP {kvs:List (Int×Value)}{es:List DictEntry}(p:Pairs (intKind P.prog P.w) es kvs):∀{l:List (Int×AV)},(∀e∈es,∃k,(intKind P.prog P.w).is k e.key=true/\e.hash=(intKind P.prog P.w).hash k)->kvs.map (·.1)=l.map (·.1)->VRs B h ι (l.map (·.2)) (kvs.map (·.2))->ERs B h ι l es:=by
 induction p with
 | nil=>intro l _ a hv;cases l with
  | nil=>rfl
  | cons _ _=>cases a
 | cons o q z ih=>rename_i e f es kvs;intro l i a hv;cases l with
  | nil=>cases a
  | cons y l =>
   have j:=fq a;have d:f.1=y.1:=j.1;refine eX hv λx A n v rr=>aK (i e (aR ..)) λk2 m u=>(jP m).elim λt s=>?_;have g:=fq n;have b:f.2=x:=g.1;have c:k2=y.1:=((intKind P.prog P.w).inj _ _ _ m o).trans d;refine⟨t,f.2,es,?_,b▸v,ih (λe r=>i e (yi _ r)) j.2 (g.2▸rr)⟩;rw[<-q,<-c,<-s];exact congrArg (·::es) (show e=⟨hashInt k2,e.key,e.val⟩ by rw[<-show e.hash=hashInt k2 from u])
theorem HR.dict {ι:List Addr}{h:Heap}(q:HR P.B ι H h){i:Nat}{a:Addr}{l:List (Int×AV)}(e:ι[i]?=some a) (hi:H[i]?=some (.dict l)) :
  ∃kvs:List (Int×Value),h.DictOf (intKind P.prog P.w) a kvs/\kvs.map (·.1)=l.map (·.1)/\VRs P.B h ι (l.map (·.2)) (kvs.map (·.2)):=by
 refine lB (q.objs i _ hi) λg c _ nd b=>?_;refine kB (b) λes n d r=>?_;clear b;rw[e] at c;cases c;refine lB (ERs.pairs P r) λkvs p1 p2 p3 p4=>?_;exact⟨kvs,⟨_,_,n,d,⟨rfl,rfl,rfl⟩,rfl,λe f=>p4 e (by simpa using f),by simpa using p1,by rw[p2];exact nd⟩,p2,p3⟩
theorem OR.ofDict {ι:List Addr}{h:Heap}{a:Addr}{kvs:List (Int×Value)}{l:List (Int×AV)}(p:(a == sysModules)=false) (q:h.DictOf (intKind P.prog P.w) a kvs) (m:kvs.map (·.1)=l.map (·.1)) (hv:VRs P.B h ι (l.map (·.2)) (kvs.map (·.2))):OR P.B h ι a (.dict l):=by refine lG (q) λo es ep s b k f d=>?_;clear q;refine fT (b) λg i j=>?_;clear b;refine c7 (d) λt r=>?_;clear d;refine⟨p,by rw[<-m];exact r,es.toList,ep,?_,FP t (λe n=>f e (by simpa using n)) m hv⟩;obtain⟨c,dd,u,v⟩:=o;simp only at g i j k;subst g;subst i;subst j;subst k;simpa using s
noncomputable def dget (l:List (Int×AV)) (k:Int):Option AV:=(l.find? λkv=>kv.1=k).map (·.2)
noncomputable def dset (l:List (Int×AV)) (k:Int) (v:AV):List (Int×AV):=if l.any (λkv=>kv.1=k) then l.map (λkv=>if kv.1=k then (kv.1,v) else kv) else l++[(k,v)]
theorem yS {α:Type}{f:Int×α->Bool}{k:Int}(a:∀x,f x=decide (x.1=k)){z:Int×α}{l:List (Int×α)}(h:z.1=k):(z::l).find? f=some z:=List.find?_cons_of_pos (by rw[a];exact decide_eq_true h)
theorem yR {α:Type}{f:Int×α->Bool}{k:Int}(a:∀x,f x=decide (x.1=k)){z:Int×α}{l:List (Int×α)}(h:¬ z.1=k):(z::l).find? f=l.find? f:=l9 (by rw[a];exact λq=>h (of_decide_eq_true q))
theorem rA {k:Int}{l:List (Int×AV)}:∀{kvs:List (Int×Value)},kvs.map (·.1)=l.map (·.1)->VRs B h ι (l.map (·.2)) (kvs.map (·.2)) ->
  (∀x,dget l k=some x->∃v,valueAt kvs k=some v/\VR B h ι x v)/\(valueAt kvs k).isSome=(dget l k).isSome:=by
 induction l with
 | nil=>intro kvs c hv;cases kvs with
  | nil=>exact⟨(λx e=>nomatch e),rfl⟩
  | cons _ _=>cases c
 | cons y l ih=>intro kvs c hv;cases kvs with
  | nil=>cases c
  | cons z kvs =>
   have f:=fq c;have b:z.1=y.1:=f.1;refine eX hv λm n g j rr=>?_;have d:=fq g;have i:=ih f.2 (d.2▸rr);unfold valueAt dget at i ⊢
   by_cases a:z.1=k
   ·rw[yS (λ_=>rfl) a,yS (λ_=>rfl) (b.symm.trans a)];exact⟨λx e=>⟨z.2,rfl,yj e▸(show z.2=m from d.1)▸j⟩,rfl⟩
   ·rw[yR (λ_=>rfl) a,yR (λ_=>rfl) λq=>a (b.trans q)];exact i
theorem ry (e:HR P.B ι H h){a:Addr}{l:List (Int×AV)}(c:ι[i]?=some a) (hi:H[i]?=some (.dict l)):(a == sysModules)=false:=by refine eT (e.objs i _ hi) λf b d _=>?_;rw[c] at b;cases b;exact d
theorem CY {i:Nat}{l:List (Int×AV)}{k:Int}{Q:AV->Hp->Prop}(hi:H[i]?=some (.dict l)) (h:Q (.bool (dget l k).isSome) H):kP P d .In (.int k) (.ref i) H Q:=op2 λA E ι s u v w e f=>by refine cG (e) λt b=>?_;clear e;subst b;refine aK (f) λa b c=>?_;clear f;subst b;refine eT (w.hr.dict c hi) λkvs g j hv=>?_;refine c7 (rA (k:=k) j hv) λ_ m=>?_;exact wpAny_in_of (knd:=intKind P.prog P.w) (k:=k) (by simp[intKind,gF]) (ry w.hr c hi) g.mapOf (Gives.now _ w.hr (VR.mkBool _) (by rw[m];exact h))
theorem Gz {i:Nat}{l:List (Int×AV)}{k:Int}{Q:AV->Hp->Prop}(hi:H[i]?=some (.dict l)) (h:Q (.bool !(dget l k).isSome) H):kP P d .NotIn (.int k) (.ref i) H Q:=op2 λA E ι s u v w e f=>by refine cG (e) λt b=>?_;clear e;subst b;refine aK (f) λa b c=>?_;clear f;subst b;refine eT (w.hr.dict c hi) λkvs g j hv=>?_;refine c7 (rA (k:=k) j hv) λ_ m=>?_;exact wpAny_notIn_of (knd:=intKind P.prog P.w) (k:=k) (by simp[intKind,gF]) (ry w.hr c hi) g.mapOf (Gives.now _ w.hr (VR.mkBool _) (by rw[m];exact h))
theorem EU {n e:Expr}{i:Nat}{l:List (Int×AV)}{k:Int}{x:AV}{Q:AV->Hp->Prop}(hi:H[i]?=some (.dict l)) (p:dget l k=some x) (h:Q x H):pH P d n e (.ref i) (.int k) H Q:=op2 λA E ι s u v w g j=>by refine aK (g) λa b m=>?_;clear g;subst b;refine cG (j) λt b=>?_;clear j;subst b;refine eT (w.hr.dict m hi) λkvs f o hv=>?_;refine c7 (rA (k:=k) o hv) λr _=>?_;refine aK (r x p) λz q B=>?_;refine cG (rB e (.ref a) (.int k t)) λy c=>?_;exact PyProof.Rows.tail_any f.typeIs slot_dict_getitem.lookup (wpAny_getItem_of (knd:=intKind P.prog P.w) (k:=k) (by simp[intKind,gF]) f.mapOf q (Gives.now _ w.hr B h)) c
theorem OR.thaw {a:Addr}{l:List (Int×AV)}{n:Nat}(q:OR B h ι a (.dicE l n)):OR B h ι a (.dict l):=⟨q.1,q.2.1,q.2.2.elim λes z=>⟨es,n,z⟩⟩
theorem HR.swap {o o':AObj}(q:HR B ι H h) (hi:H[i]?=some o) (k:∀a,ι[i]?=some a->OR B h ι a o->OR B h ι a o'):HR B ι (H.set i o') h :=
 ⟨q.base,q.fresh,q.nodup,q.len.trans (bh ..).symm,λj p b=>by
  by_cases d:i=j
  ·subst d;rw[fg (ym hi).1] at b;cases b;exact aK (q.objs i o hi) λa c r=>⟨a,c,k a c r⟩
  ·rw[m3 d] at b;exact q.objs j p b⟩
theorem HR.thaw {l:List (Int×AV)}{n:Nat}(q:HR B ι H h) (hi:H[i]?=some (.dicE l n)):HR B ι (H.set i (.dict l)) h:=q.swap hi λ_ _ r=>r.thaw
theorem HR.freeze {B:Heap}{ι:List Addr}{h:Heap}{i:Nat}{l:List (Int×AV)}(q:HR B ι H h) (hi:H[i]?=some (.dict l)):∃n,HR B ι (H.set i (.dicE l n)) h:=by refine lB (q.objs i _ hi) λa e f g c=>?_;refine kA (c) λes n j=>?_;clear c;exact⟨n,q.swap hi λb d _=>by rw[e] at d;cases d;exact⟨f,g,es,j⟩⟩
theorem HR.dictE (q:HR P.B ι H h){a:Addr}{l:List (Int×AV)}{n:Nat}(e:ι[i]?=some a) (hi:H[i]?=some (.dicE l n)) :
  (a == sysModules)=false/\∃kvs:List (Int×Value),h.DictAt (intKind P.prog P.w) a kvs n/\kvs.map (·.1)=l.map (·.1)/\VRs P.B h ι (l.map (·.2)) (kvs.map (·.2)):=by
 refine lB (q.objs i _ hi) λj c g nd b=>?_;refine aK (b) λes d r=>?_;rw[e] at c;cases c;refine lB (ERs.pairs P r) λkvs p1 p2 p3 p4=>?_;exact⟨g,kvs,⟨_,_,d,⟨rfl,rfl,rfl⟩,rfl,λe f=>p4 e (by simpa using f),by simpa using p1,by rw[p2];exact nd⟩,p2,p3⟩
theorem Gd {m f:Expr}{i:Nat}{l:List (Int×AV)}{n:Nat}{k:Int}{x:AV}{Q:AV->Hp->Prop}(hi:H[i]?=some (.dicE l n)) (p:dget l k=some x) (h:Q x H):pH P d m f (.ref i) (.int k) H Q:=op2 λA E ι s u v w B C=>by refine aK (B) λa b j=>?_;subst b;refine cG (C) λt b=>?_;subst b;refine c7 (w.hr.dictE j hi) λ_ e=>?_;refine eT (e) λkvs g o hv=>?_;clear e;refine c7 (rA (k:=k) o hv) λr _=>?_;refine aK (r x p) λz q D=>?_;refine cG (rB f (.ref a) (.int k t)) λy c=>?_;exact PyProof.Rows.tail_any g.dictOf.typeIs slot_dict_getitem.lookup (wpAny_getItem_of (knd:=intKind P.prog P.w) (k:=k) (by simp[intKind,gF]) g.dictOf.mapOf q (Gives.now _ w.hr D h)) c
theorem Bj {x y:AV}{l:List AV}{e:PyData}{i:List PyData}{Q:AV->Hp->Prop}(r:seqL H y=some l) (q:dat H x=some e) (p:dats H l=some i) (m:e.depth<=100) (h:Q (.bool (i.any λz=>bu z e)) H):kP P d .In x y H Q:=op2 λA E ι s u v w G I=>by refine c7 (pg w.hr G q) λb C=>?_;refine cG (b) λas B=>?_;clear b;refine eX (oD w.hr I r) λa vs f c J=>?_;subst f;refine eT (c) λo j k t=>?_;clear c;revert t;intro c;refine cG (c) λn g=>?_;clear c;refine c7 (sA w.hr J p) λb F=>?_;refine cG (b) λbs D=>?_;clear b;exact SeqAt.in_list_reads (Reads.list j k g D) B F C (by have:=w.room.units;exact z98 m this) (Gives.same w.hr (VR.mkBool _) h)
theorem Ft {x y:AV}{l:List AV}{e:PyData}{i:List PyData}{Q:AV->Hp->Prop}(r:seqL H y=some l) (q:dat H x=some e) (p:dats H l=some i) (m:e.depth<=100) (h:Q (.bool !(i.any λz=>bu z e)) H):kP P d .NotIn x y H Q:=op2 λA E ι s u v w G I=>by refine c7 (pg w.hr G q) λb C=>?_;refine cG (b) λas B=>?_;clear b;refine eX (oD w.hr I r) λa vs f c J=>?_;subst f;refine eT (c) λo j k t=>?_;clear c;revert t;intro c;refine cG (c) λn g=>?_;clear c;refine c7 (sA w.hr J p) λb F=>?_;refine cG (b) λbs D=>?_;clear b;exact SeqAt.notIn_list_reads (Reads.list j k g D) B F C (by have:=w.room.units;exact z98 m this) (Gives.same w.hr (VR.mkBool _) h)
theorem CZ {x:AV}{l:List AV}{e:PyData}{g:List PyData}{Q:AV->Hp->Prop}(o:dat H x=some e) (m:dats H l=some g) (k:e.depth<=100) (h:Q (.bool (g.any λz=>bu z e)) H):kP P d .In x (.tup l) H Q:=op2 λA E ι s u v w y i=>by refine c7 (pg w.hr y o) λb q=>?_;refine cG (b) λas p=>?_;clear b;refine eX (i) λa vs f c B=>?_;clear i;subst f;refine mJ (c) λn _ _ j=>?_;clear c;refine c7 (sA w.hr B m) λb t=>?_;refine cG (b) λbs r=>?_;clear b;exact SeqAt.in_tuple_reads (Reads.tuple j rfl rfl r) p t q (by have:=w.room.units;exact z98 k this) (Gives.same w.hr (VR.mkBool _) h)
theorem GA {x:AV}{l:List AV}{e:PyData}{g:List PyData}{Q:AV->Hp->Prop}(o:dat H x=some e) (m:dats H l=some g) (k:e.depth<=100) (h:Q (.bool !(g.any λz=>bu z e)) H):kP P d .NotIn x (.tup l) H Q:=op2 λA E ι s u v w y i=>by refine c7 (pg w.hr y o) λb q=>?_;refine cG (b) λas p=>?_;clear b;refine eX (i) λa vs f c B=>?_;clear i;subst f;refine mJ (c) λn _ _ j=>?_;clear c;refine c7 (sA w.hr B m) λb t=>?_;refine cG (b) λbs r=>?_;clear b;exact SeqAt.notIn_tuple_reads (Reads.tuple j rfl rfl r) p t q (by have:=w.room.units;exact z98 k this) (Gives.same w.hr (VR.mkBool _) h)
noncomputable def qg (x y:AV):Option Bool:=match y with
 | .none=>(match x with|.none=>some true|_=>some false)
 | .bool b=>(match x with|.none=>some false|.int _=>some false|.bool a=>some (a == b)|_=>da)
 | _=>da
theorem VR.isNone {x:AV}{u:Value}(r:VR B h ι x u):qg x .none=some (u == fE):=by
 cases x with
 | none=>rw[show u=_ from r];rfl
 | bool a=>rw[show u=_ from r];rfl
 | int i=>exact r.elim λt e=>e▸rfl
 | str i=>exact r.2.elim λt e=>e▸rfl
 | tup l=>exact r.elim λa q=>q.elim λvs z=>z.1▸rfl
 | ref i=>exact r.elim λa z=>z.1▸rfl
 | fro l=>exact r.elim λa q=>q.elim λvs z=>z.1▸rfl
 | obj k=>exact r.elim λa q=>q.elim λvs z=>z.1▸rfl
theorem yF {x y:AV}{u v:Value}{b:Bool}(c:qg x y=some b) (d:VR B h ι x u) (f:VR B h ι y v):(u == v)=b/\(v=.none\/plainIs u v=true):=by
 cases y with
 | none=>rw[show v=_ from f];exact⟨yj (d.isNone.symm.trans c),.inl rfl⟩
 | bool e =>
  rw[show v=_ from f];cases x with
  | none=>rw[show u=_ from d];exact⟨yj c,.inr rfl⟩
  | bool a=>rw[show u=_ from d];exact⟨(show(kY a == kY e)=(a == e) by cases a<;>cases e<;>rfl).trans (yj c),.inr rfl⟩
  | int i=>exact d.elim λt z=>z▸⟨yj c,.inr rfl⟩
  | _=>exact nomatch (show(da:Option Bool)=some _ from c)
 | _=>exact nomatch (show(da:Option Bool)=some _ from c)
theorem Bk {x y:AV}{b:Bool}{Q:AV->Hp->Prop}(a:qg x y=some b) (h:Q (.bool b) H):kP P d .Is x y H Q:=op2 λA E ι s u v w c f=>by have e:=yF a c f;have g:Gives P.B ι s Q (.bool (u == v)) s:=e.1.symm▸Gives.same w.hr (VR.mkBool _) h;exact e.2.elim (λz=>z▸is_none (z▸g)) λz=>wpAny_is_plain z g
theorem Fs {x y:AV}{b:Bool}{Q:AV->Hp->Prop}(a:qg x y=some b) (h:Q (.bool !b) H):kP P d .IsNot x y H Q:=op2 λA E ι s u v w c f=>by have e:=yF a c f;have g:Gives P.B ι s Q (.bool (!(u == v))) s:=e.1.symm▸Gives.same w.hr (VR.mkBool _) h;exact e.2.elim (λz=>z▸isNot_none (z▸g)) λz=>wpAny_isNot_plain z g
theorem xg {x:AV}{l:List AV}{Q:AV->Hp->Prop}(f:seqL H x=some l) (c:l.length<2^62) (h:Q (.int l.length) H):OpOK P d (λvs=>call (.builtin "len") vs) [x] H Q:=fn1 λA E ι s u w r=>by
 refine eX (oD w.hr r f) λa vs b g i=>?_;subst b;have e:((aW vs).size:Int)=l.length:=by rw[aH,i.length]
 refine Calls.call_len_list g (by exact z99 c e) (Gives.now _ w.hr (av:=.int l.length) ?_ h);rw[e];exact VR.mkInt _ _
theorem CN {l:List AV}{Q:AV->Hp->Prop}(c:l.length<2^62) (h:Q (.int l.length) H):OpOK P d (λvs=>call (.builtin "len") vs) [.tup l] H Q:=fn1 λA E ι s u w r=>by
 refine eX (r) λa vs b f g=>?_;clear r;subst b;have e:((aW vs).size:Int)=l.length:=by rw[aH,g.length]
 refine PyProof.Rows.len_tuple f.isTup (by exact z99 c e) (Gives.now _ w.hr (av:=.int l.length) ?_ h);rw[e];exact VR.mkInt _ _
theorem uP {a:Addr}{l:List AV}{v:Value}{x:AV}{Q:AV->Hp->Prop}(c:HR P.B ι H s.heap) (e:ι[i]?=some a) (d:∀b o,b≠a->s.heap.get? b=some o->h'.get? b=some o)
  (pl:h'.PlainList a (aW vs)) (g:VRs P.B s.heap ι l vs) (rx:VR P.B s.heap ι x v) (q:Q x (H.set i (.list l))) (t:Nat):Gives P.B ι s Q v { s with heap:=h',toks:=t }:=by
 have f:a∈ι:=yc e;exact⟨ι,_,x,Post.upd (t:=t) c e d (o:=.list l) ⟨vs,pl,c.vrs_upd f d g⟩,c.vr_upd f d rx,q⟩
theorem uW {a:Addr}{its:Array Value}{n:Nat}(e:h.get? a=some { cls:=.type "list",dict:=none,data:=.seq its n,slots:=#[] }) (f:Array Value->Array Value) :
  (h.update a (fY f)).PlainList a (f its)/\∀b o,b≠a->h.get? b=some o->(h.update a (fY f)).get? b=some o:=by
 refine⟨⟨if (f its).size == its.size then n else n+1,?_⟩,λb o d c=>(md h _ (Ne.symm d)).trans c⟩;exact i5 _ e rfl
theorem FA {i:Nat}{l:List AV}{x:AV}{Q:AV->Hp->Prop}(hi:H[i]?=some (.list l)) (r:l.length<=ag) (h:Q .none (H.set i (.list (l++[x])))):OpOK P d (λvs=>call (.builtin "list.append") vs) [.ref i,x] H Q:=fn2 λA E ι s u v w j t=>by refine aK (j) λa e g=>?_;clear j;subst e;refine aK (w.hr.list g hi) λvs c k=>?_;refine cG (c) λn pl=>?_;clear c;refine wpAny_list_append_plain ⟨n,pl⟩ (λh' f y=>?_) (by rw[aH,k.length];exact r);exact uP (vs:=vs++[v]) w.hr g (λb o q p=>y.extBut b o q p) (by simpa using f) (k.append (m:=[x]) ⟨v,[],rfl,t,rfl⟩) VR.mkNone h s.toks
theorem Ba {i:Nat}{l:List AV}{x:AV}{Q:AV->Hp->Prop}(hi:H[i]?=some (.list (l++[x]))) (m:l.length+1<=ag) (h:Q x (H.set i (.list l))):OpOK P d (λvs=>call (.builtin "list.pop") vs) [.ref i] H Q:=fn1 λA E ι s u w k=>by
 refine aK (k) λa f j=>?_;clear k;subst f;refine aK (w.hr.list j hi) λvs c g=>?_;refine cG (c) λn pl=>?_;clear c;have b:vs.length=l.length+1:=by rw[g.length];simp
 refine aK (g.get (i:=l.length) (x:=x) (by simp)) λz o p=>?_;refine mw PySem.F.slot_list_pop ⟨_,pl,rfl⟩ PySem.F.entry_list_pop (PySem.F.args_list_pop_1 _) (MeetsSeq.list_pop_last a vs.toArray n z (by simpa [b] using o) (by rw[aH,b];exact m)) ⟨pl,?_⟩;refine c7 (uW pl (λxs=>xs.eraseIdxIfInBounds (vs.toArray.size-1))) λp1 p2=>?_;have e:vs.toArray.eraseIdxIfInBounds (vs.toArray.size-1)=(vs.take l.length).toArray:=by simp only[aH,List.eraseIdxIfInBounds_toArray,b,fj];congr 1;rw[List.eraseIdx_eq_take_drop_succ,d7 (by exact bf b)];simp
 rw[e] at p1;have rt:=g.take l.length;rw[i9] at rt;exact uP (vs:=vs.take l.length) w.hr j p2 p1 rt p h s.toks
end Mine
namespace Mine
open PySem
inductive BOp where|add|sub|mul|fdiv|mod|pow
inductive COp where|eq|ne|lt|le|gt|ge|is|isNot|isin|notIn
inductive Ty where|int|bool|str|tuple|list
abbrev Fun:=Str->List AV->Hp->(AV->Hp->Prop)->Prop
abbrev PQ:=AV->Hp->Prop
def NoPy (a b:Int):Prop:=Builtin.divisionGoesByPylong a b=false
def asB (v:AV) (K:Bool->Prop):Prop:=match v with|.bool b=>K b|_=>False
def asI (v:AV) (K:Int->Prop):Prop:=match v with|.int b=>K b|_=>False
theorem asB.ex {v:AV}{K:Bool->Prop}(h:asB v K):∃b,v=.bool b/\K b:=by cases v<;>first|exact h.elim|exact⟨_,rfl,h⟩
theorem asI.ex {v:AV}{K:Int->Prop}(h:asI v K):∃b,v=.int b/\K b:=by cases v<;>first|exact h.elim|exact⟨_,rfl,h⟩
def asS (v:AV) (K:Str->Prop):Prop:=match v with|.str b=>K b|_=>False
theorem asS.ex {v:AV}{K:Str->Prop}(h:asS v K):∃b,v=.str b/\K b:=by cases v<;>first|exact h.elim|exact⟨_,rfl,h⟩
def asR (v:AV) (K:Nat->Prop):Prop:=match v with|.ref b=>K b|_=>False
theorem asR.ex {v:AV}{K:Nat->Prop}(h:asR v K):∃b,v=.ref b/\K b:=by cases v<;>first|exact h.elim|exact⟨_,rfl,h⟩
def asTp (v:AV) (K:List AV->Prop):Prop:=match v with|.tup b=>K b|_=>False
theorem asTp.ex {v:AV}{K:List AV->Prop}(h:asTp v K):∃b,v=.tup b/\K b:=by cases v<;>first|exact h.elim|exact⟨_,rfl,h⟩
def wc (x y:AV) (H:Hp) (Q:PQ):Prop :=
 match x with
 | .int a=>asI y λb=>Q (.int (a+b)) H
 | .ref i=>asR y λj=>∃l m,H[i]?=some (.list l)/\H[j]?=some (.list m)/\l.length+m.length<=ag/\Q (.ref H.length) (H++[.list (l++m)])
 | .tup l=>asTp y λm=>l.length+m.length<=ag/\Q (.tup (l++m)) H
 | .str a=>asS y λb=>a.length+b.length<=ag/\Q (.str (a++b)) H
 | _=>False
def n7 (op:BOp) (x y:AV) (H:Hp) (Q:PQ):Prop :=
 match op with
 | .add=>wc x y H Q
 | .sub=>asI x λa=>asI y λb=>Q (.int (a-b)) H
 | .mul=>asI x λa=>asI y λb=>IntMulOk a b/\Q (.int (a*b)) H
 | .fdiv=>asI x λa=>asI y λb=>b≠0/\NoPy a b/\Q (.int (a.fdiv b)) H
 | .mod=>asI x λa=>asI y λb=>b≠0/\Q (.int (a.fmod b)) H
 | .pow=>asI x λa=>asI y λn=>0<=n/\n<=1000000/\a.natAbs<2^64/\Q (.int (a^n.toNat)) H
def wpIn (x y:AV) (H:Hp) (K:Bool->Prop):Prop :=
 match y with
 | .ref i=>match H[i]? with
  | some (.list l)=>∃dx ds,dat H x=some dx/\dats H l=some ds/\dx.depth<=100/\K (ds.any λz=>bu z dx)
  | some (.dict l)=>∃k,x=.int k/\K (dget l k).isSome
  | _=>False
 | .tup l=>∃dx ds,dat H x=some dx/\dats H l=some ds/\dx.depth<=100/\K (ds.any λz=>bu z dx)
 | _=>False
def eqD (x y:AV) (H:Hp) (K:Bool->Prop):Prop:=∃dx dy,dat H x=some dx/\dat H y=some dy/\dx.depth<=100/\K (bu dx dy)
def wpEq (x y:AV) (H:Hp) (K:Bool->Prop):Prop :=
 match x with
 | .int a=>(match y with|.int b=>K (a == b)|y=>eqD (.int a) y H K)
 | .str a=>(match y with|.str b=>K (a == b)|y=>eqD (.str a) y H K)
 | .bool a=>(match y with|.bool b=>K (a == b)|y=>eqD (.bool a) y H K)
 | x=>eqD x y H K
theorem wpEq.data {x y:AV}{H:Hp}{K:Bool->Prop}(h:wpEq x y H K):eqD x y H K:=by
 cases x with
 | int a =>
  cases y with
  | int b =>
   have g:K (a == b):=h;exact⟨.int a,.int b,rfl,rfl,by simp[bS],by simpa [bu] using g⟩
  | _=>exact h
 | str a =>
  cases y with
  | str b =>
   have g:K (a == b):=h;exact⟨.str a,.str b,rfl,rfl,by simp[bS],by simpa [bu] using g⟩
  | _=>exact h
 | bool a =>
  cases y with
  | bool b =>
   have g:K (a == b):=h;exact⟨.bool a,.bool b,rfl,rfl,by simp[bS],by simpa [bu] using g⟩
  | _=>exact h
 | _=>exact h
def kt (op:COp) (x y:AV) (H:Hp) (Q:PQ):Prop :=
 match op with
 | .eq=>wpEq x y H λb=>Q (.bool b) H
 | .ne=>wpEq x y H λb=>Q (.bool !b) H
 | .lt=>asI x λa=>asI y λb=>Q (.bool (decide (a<b))) H
 | .le=>asI x λa=>asI y λb=>Q (.bool (decide (a<=b))) H
 | .gt=>asI x λa=>asI y λb=>Q (.bool (decide (b<a))) H
 | .ge=>asI x λa=>asI y λb=>Q (.bool (decide (b<=a))) H
 | .is=>∃b,qg x y=some b/\Q (.bool b) H
 | .isNot=>∃b,qg x y=some b/\Q (.bool !b) H
 | .isin=>wpIn x y H λb=>Q (.bool b) H
 | .notIn=>wpIn x y H λb=>Q (.bool !b) H
section
variable {P:PEnv}{d:Nat}{H:Hp}
noncomputable def BOp.op:BOp->Operator|.add=>.Add|.sub=>.Sub|.mul=>.Mult|.fdiv=>.FloorDiv|.mod=>.Mod|.pow=>.Pow
noncomputable def COp.op:COp->CmpOp|.eq=>.Eq|.ne=>.NotEq|.lt=>.Lt|.le=>.LtE|.gt=>.Gt|.ge=>.GtE|.is=>.Is|.isNot=>.IsNot|.isin=>.In|.notIn=>.NotIn
theorem E0 {x y:AV}{Q:PQ}(h:wc x y H Q):oi P d .Add x y H Q:=by
 cases x with
 | int a=>obtain⟨b,rfl,h⟩:=asI.ex h;exact B5 h
 | ref i=>obtain⟨j,rfl,l,m,c,e,f,g⟩:=asR.ex h;exact D4 c e f g
 | tup l=>obtain⟨m,rfl,h⟩:=asTp.ex h;exact D6 h.1 h.2
 | str a=>obtain⟨b,rfl,h⟩:=asS.ex h;exact D5 h.1 h.2
 | _=>exact h.elim
theorem E1 {op:BOp}{x y:AV}{Q:PQ}(h:n7 op x y H Q):oi P d op.op x y H Q:=by
 cases op with
 | add=>exact E0 h
 | sub=>obtain⟨a,rfl,h⟩:=asI.ex h;obtain⟨b,rfl,h⟩:=asI.ex h;exact CP h
 | mul=>obtain⟨a,rfl,h⟩:=asI.ex h;obtain⟨b,rfl,h⟩:=asI.ex h;exact B7 h.1 h.2
 | fdiv=>obtain⟨a,rfl,h⟩:=asI.ex h;obtain⟨b,rfl,h⟩:=asI.ex h;exact D7 h.1 h.2.1 h.2.2
 | mod=>obtain⟨a,rfl,h⟩:=asI.ex h;obtain⟨b,rfl,h⟩:=asI.ex h;exact B6 h.1 h.2
 | pow=>obtain⟨a,rfl,h⟩:=asI.ex h;obtain⟨b,rfl,h⟩:=asI.ex h;exact B8 h.1 h.2.1 h.2.2.1 h.2.2.2
structure PEnv.OK2 (P:PEnv):Prop extends P.OK where
 low:∃b o,P.B.get? b=some o/\sysModules<b
theorem DJ (ok:P.OK2){x y:AV}{Q:PQ}(h:wpIn x y H λb=>Q (.bool b) H):kP P d .In x y H Q:=by
 unfold wpIn at h;split at h
 ·rename_i i;split at h
  ·rename_i l j;refine m9 (h) λn m c e f g=>?_;clear h;exact Bj (by simp[seqL,j]) c e f g
  ·rename_i l j;refine aK (h) λk a o=>?_;clear h;revert o;intro h;subst a;exact CY j h
  ·exact h.elim
 ·refine m9 (h) λn m c e f g=>?_;clear h;exact CZ c e f g
 ·exact h.elim
theorem Gu (ok:P.OK2){x y:AV}{Q:PQ}(h:wpIn x y H λb=>Q (.bool !b) H):kP P d .NotIn x y H Q:=by
 unfold wpIn at h;split at h
 ·rename_i i;split at h
  ·rename_i l j;refine m9 (h) λn m c e f g=>?_;clear h;exact Ft (by simp[seqL,j]) c e f g
  ·rename_i l j;refine aK (h) λk a o=>?_;clear h;revert o;intro h;subst a;exact Gz j h
  ·exact h.elim
 ·refine m9 (h) λn m c e f g=>?_;clear h;exact GA c e f g
 ·exact h.elim
theorem DI {x y:AV}{Q:PQ}(h:wpEq x y H λb=>Q (.bool b) H):kP P d .Eq x y H Q:=by refine m9 (h.data) λg i a c e f=>?_;exact Bf a c e f
theorem DK {x y:AV}{Q:PQ}(h:wpEq x y H λb=>Q (.bool !b) H):kP P d .NotEq x y H Q:=by refine m9 (h.data) λg i a c e f=>?_;exact AQ a c e f
theorem qy (ok:P.OK2){op:COp}{x y:AV}{Q:PQ}(h:kt op x y H Q):kP P d op.op x y H Q:=by
 cases op with
 | eq=>exact DI h
 | ne=>exact DK h
 | lt=>obtain⟨a,rfl,h⟩:=asI.ex h;obtain⟨b,rfl,h⟩:=asI.ex h;exact AP h
 | le=>obtain⟨a,rfl,h⟩:=asI.ex h;obtain⟨b,rfl,h⟩:=asI.ex h;exact AO h
 | gt=>obtain⟨a,rfl,h⟩:=asI.ex h;obtain⟨b,rfl,h⟩:=asI.ex h;exact Bh h
 | ge=>obtain⟨a,rfl,h⟩:=asI.ex h;obtain⟨b,rfl,h⟩:=asI.ex h;exact Bg h
 | is=>obtain⟨b,c,e⟩:=h;exact Bk c e
 | isNot=>obtain⟨b,c,e⟩:=h;exact Fs c e
 | isin=>exact DJ ok h
 | notIn=>exact Gu ok h
end
end Mine
variable {l:List Mine.AV}{v:Mine.AV}{D:List (Int×Mine.AV)}{H:Mine.Hp}{Φ:Mine.Fun}
namespace Mine
open PySem
variable {P:PEnv}{C:Ctx}{d:Nat}{loc:Loc}{H:Hp}{X:XP}
noncomputable def Ty.nm:Ty->String|.int => "int" | .bool => "bool" | .str => "str" | .tuple => "tuple" | .list => "list"
noncomputable def isi (H:Hp) (x:AV) (t:Ty):Bool :=
 match x with
 | .none=>false
 | .bool _=>(match t with|.bool=>true|.int=>true|_=>false)
 | .int _=>(match t with|.int=>true|_=>false)
 | .str _=>(match t with|.str=>true|_=>false)
 | .tup _=>(match t with|.tuple=>true|_=>false)
 | .fro _=>(match t with|.list=>true|_=>false)
 | .obj _=>false
 | .ref i=>(match t with|.list=>(match H[i]? with|some (.list _)=>true|_=>false)|_=>false)
theorem lR :isi H (.tup l) .tuple=true:=rfl
theorem lQ :isi H (.ref i) .tuple=false:=rfl
theorem mh {i:Int}:isi H (.int i) .int=true:=rfl
theorem mf {i:Int}:isi H (.int i) .bool=false:=rfl
theorem mj {x:Str}:isi H (.str x) .str=true:=rfl
def IsA (P:PEnv) (A:Around) (E:Value->Shared->Prop) (s:Shared) (u:Value) (b:Ty->Bool) (t:Ty):Prop:=∀Q:Value->Shared->Prop,Q (.bool (b t)) s->Q (.bool (b t)) { s with toks:=s.toks+1 }->aP (model P.prog P.w) A (call (.builtin "isinstance") [u,.type t.nm]) Q E s
section
variable {A:Around}{E:Value->Shared->Prop}{s:Shared}{a:Addr}{o:Obj}
theorem yr (e:s.heap.get? a=some o) (b:o.cls=.type "list") (t:Ty):IsA P A E s (.ref a) (λt=>match t with|.list=>true|_=>false) t :=
 Ty.rec (motive:=IsA P A E s (.ref a) (λt=>match t with|.list=>true|_=>false)) (λ_ k0 k1=>IsiPair.list_int e b k1) (λ_ k0 k1=>IsiPair.list_bool e b k1) (λ_ k0 k1=>IsiPair.list_str e b k1) (λ_ k0 k1=>IsiPair.list_tuple e b k1) (λ_ k0 k1=>IsiPair.list_list e b k0) t
theorem yq (e:s.heap.get? a=some o) (b:o.cls=.type "dict") (t:Ty):IsA P A E s (.ref a) (λ_=>false) t :=
 Ty.rec (motive:=IsA P A E s (.ref a) (λ_=>false)) (λ_ k0 k1=>IsiPair.dict_int e b k1) (λ_ k0 k1=>IsiPair.dict_bool e b k1) (λ_ k0 k1=>IsiPair.dict_str e b k1) (λ_ k0 k1=>IsiPair.dict_tuple e b k1) (λ_ k0 k1=>IsiPair.dict_list e b k1) t
theorem BL {x:AV}{u:Value}{t:Ty}(d:HR P.B ι H s.heap) (r:VR P.B s.heap ι x u):IsA P A E s u (isi H x) t:=by
 cases x with
 | none=>cases r;exact Ty.rec (motive:=IsA P A E s .none (isi H .none)) (λ_ k0 k1=>IsiPair.NoneType_int k1) (λ_ k0 k1=>IsiPair.NoneType_bool k1) (λ_ k0 k1=>IsiPair.NoneType_str k1) (λ_ k0 k1=>IsiPair.NoneType_tuple k1) (λ_ k0 k1=>IsiPair.NoneType_list k1) t
 | bool b=>cases r;exact Ty.rec (motive:=IsA P A E s (.bool b) (isi H (.bool b))) (λ_ k0 k1=>IsiPair.bool_int k0) (λ_ k0 k1=>IsiPair.bool_bool k0) (λ_ k0 k1=>IsiPair.bool_str k1) (λ_ k0 k1=>IsiPair.bool_tuple k1) (λ_ k0 k1=>IsiPair.bool_list k1) t
 | int i=>exact cG r λg e=>e▸Ty.rec (motive:=IsA P A E s (.int i g) (isi H (.int i))) (λ_ k0 k1=>IsiPair.int_int k0) (λ_ k0 k1=>IsiPair.int_bool k1) (λ_ k0 k1=>IsiPair.int_str k1) (λ_ k0 k1=>IsiPair.int_tuple k1) (λ_ k0 k1=>IsiPair.int_list k1) t
 | str y=>exact cG r.2 λg e=>e▸Ty.rec (motive:=IsA P A E s (.str y g) (isi H (.str y))) (λ_ k0 k1=>IsiPair.str_int k1) (λ_ k0 k1=>IsiPair.str_bool k1) (λ_ k0 k1=>IsiPair.str_str k0) (λ_ k0 k1=>IsiPair.str_tuple k1) (λ_ k0 k1=>IsiPair.str_list k1) t
 | tup l=>exact eX r λa vs q C _=>mJ C λn _ _ e=>q▸Ty.rec (motive:=IsA P A E s (.ref a) (isi H (.tup l))) (λ_ k0 k1=>IsiPair.tuple_int e rfl k1) (λ_ k0 k1=>IsiPair.tuple_bool e rfl k1) (λ_ k0 k1=>IsiPair.tuple_str e rfl k1) (λ_ k0 k1=>IsiPair.tuple_tuple e rfl k0) (λ_ k0 k1=>IsiPair.tuple_list e rfl k1) t
 | fro l=>exact eX r λa vs q w _=>eT w λo e v _=>q▸yr (d.base _ _ e) v t
 | obj k =>
  refine eX r λa D e _ o=>?_;subst e;exact λQ _ k1=>o.2 t.nm (by cases t<;>decide) _ _ _ _ _ _ d.base k1
 | ref i =>
  refine aK (r) λa c m=>?_;subst c;refine aK (d.there m) λo h f=>?_;have j:o.ctorIdx≠0->isi H (.ref i)=λ_=>false:=λz=>funext λt=>by
   cases t with
   | list =>
    show(match H[i]? with|some (.list _)=>true|_=>false)=false;rw[h];cases o with
    | list l=>exact absurd rfl z
    | _=>rfl
   | _=>rfl
  cases o with
  | list l =>
   have p:isi H (.ref i)=λt=>match t with|.list=>true|_=>false:=funext λt=>by
    cases t with
    | list=>show(match H[i]? with|some (.list _)=>true|_=>false)=true;rw[h]
    | _=>rfl
   rw[p];exact aK f λvs q _=>cG q λn e=>yr e rfl t
  | dict l=>rw[j (by intro z;cases z)];exact fT f λ_ _ q=>kB q λvs n e _=>yq e rfl t
  | dicE l n=>rw[j (by intro z;cases z)];exact fT f λ_ _ q=>aK q λvs e _=>yq e rfl t
end
theorem BM {x:AV}{t:Ty}{Q:PQ}(h:Q (.bool (isi H x t)) H):OpOK P d (λvs=>call (.builtin "isinstance") [vs.getD 0 .none,.type t.nm]) [x] H Q:=λA E ι s a w rs =>
 aK (vrs1 rs) λu e r=>e▸BL w.hr r _ (Gives.same w.hr (VR.mkBool _) h) (Gives.now _ w.hr (VR.mkBool _) h)
theorem CJ {b:Bool}{Q:PQ}(h:Q (.int (if b then 1 else 0)) H):OpOK P d (λvs=>call (.type "int") vs) [.bool b] H Q:=fn1 λA E ι s u w r=>by cases r;exact call_int_bool (Gives.now _ w.hr (VR.mkInt _ _) h)
theorem A9 {Q:PQ}(h:Q (.int (if b>a then b else a)) H):OpOK P d (λvs=>call (.builtin "max") vs) [.int a,.int b] H Q:=fn2 λA E ι s u v w e f=>by
 obtain⟨t,rfl⟩:=e;obtain⟨t',rfl⟩:=f;refine max_two_ints w.room.handled λh' g c=>⟨ι,H,_,Post.keep w.hr c,?_,h⟩;split
 ·exact VR.mkInt _ _
 ·exact VR.mkInt _ _
theorem A_ {Q:PQ}(h:Q (.int (if b<a then b else a)) H):OpOK P d (λvs=>call (.builtin "min") vs) [.int a,.int b] H Q:=fn2 λA E ι s u v w e f=>by
 obtain⟨t,rfl⟩:=e;obtain⟨t',rfl⟩:=f;refine min_two_ints w.room.handled λh' g c=>⟨ι,H,_,Post.keep w.hr c,?_,h⟩;split
 ·exact VR.mkInt _ _
 ·exact VR.mkInt _ _
theorem VRs.cons {x:AV}{v:Value}(a:VR B h ι x v) (b:VRs B h ι l vs):VRs B h ι (x::l) (v::vs):=by exact⟨v,vs,rfl,a,b⟩
theorem VRs.kept (k:∀b o,h.get? b=some o->h'.get? b=some o) (p:ι<+:ι')(r:VRs B h ι l vs):VRs B h' ι' l vs :=
 VRs.mono (oH k) n_ p l vs r
theorem sX {x:AV}{l:List AV}{Q:PQ}(m:seqL H x=some l\/x=.tup l) (z:l.length<=ag) (h:Q (.ref H.length) (H++[.list l])):OpOK P d (λvs=>call (.type "list") vs) [x] H Q:=fn1 λA E ι s u w r=>by
 have fin:∀a vs T o n,T = "list" \/ T = "tuple" -> VRs P.B s.heap ι l vs->s.heap.get? a=some o->o.cls=.type T->o.data=.seq vs.toArray n ->
   aP (model P.prog P.w) A (call (.type "list") [.ref a]) (Gives P.B ι s Q) E s:=λa vs T o n y f k i j=>by
  refine call_list_seq a y k i j (λh' v p g=>?_) (by rw[aH,f.length];exact z);refine⟨_,_,.ref H.length,Post.alloc (t:=s.toks) w.hr p (oR _) (o:=.list l) ⟨vs,⟨v,g⟩,f.kept p (bE _ _)⟩,?_,h⟩;exact⟨_,rfl,by rw[<-w.hr.len];simp⟩
 rcases m with m|rfl
 ·refine eX (oD w.hr r m) λa vs c q f=>?_;subst c;refine eT (q) λo k i b=>?_;clear q;refine cG (b) λn j=>?_;clear b;exact fin a vs _ o n (.inl rfl) f k i j
 ·refine eX (r) λa vs c b f=>?_;clear r;subst c;refine mJ (b) λn _ _ e=>?_;clear b;exact fin a vs _ _ n (.inr rfl) f e rfl rfl
theorem GE {x:AV}{Q:PQ}(k:seqL H x=some l) (j:l.length<=ag) (h:Q (.tup l) H):OpOK P d (λvs=>call (.type "tuple") vs) [x] H Q:=fn1 λA E ι s u w r=>by refine eX (oD w.hr r k) λa vs f m g=>?_;subst f;refine call_tuple_list m (λh' i=>?_) (by rw[aH,g.length];exact j);have c:∀b o,s.heap.get? b=some o->(h'.push { cls:=.type "tuple",data:=.seq vs.toArray }).get? b=some o:=λb o e=>ay _ (i b o e);refine⟨ι,H,.tup l,Post.keep (t:=s.toks) w.hr c,?_,h⟩;exact⟨_,vs,rfl,PTup.new _ _,g.kept c (af _)⟩
theorem VRs.bools {B h:Heap}{ι:List Addr}:∀{bs:List Bool}{vs:List Value},VRs B h ι (bs.map .bool) vs->vs=bs.map .bool
 | [],_,r=>r
 | b::bs,vs,r=>by refine eX (r) λv t a hv c=>?_;clear r;subst a;rw[VRs.bools c,show v=.bool b from hv];rfl
theorem A8 {x:AV}{bs:List Bool}{Q:PQ}(p:seqL H x=some (bs.map .bool)) (h:Q (.bool (bs.all λb=>b)) H):OpOK P d (λvs=>call (.builtin "all") vs) [x] H Q:=fn1 λA E ι s u w r=>by
 refine eX (oD w.hr r p) λa vs f j t=>?_;subst f;have:=t.bools;subst this;refine call_all_walk (kZ j ⟨_,_,_,_,_,_,λi=>(bs[i]?).getD false,rfl,Walks.list (A:=A.in1) w.room.handled s.heap.objs.size a ?_ (bs.map kY).toArray,⟨?_,?_⟩,?_,λh' B n=>?_⟩)
 ·rintro rfl;obtain⟨o,e,_⟩:=j;rw[oR] at e;cases e
 ·exact⟨_,ba _ rfl,rfl,rfl⟩
 ·exact j.push _
 ·intro i v z y s' hv l;simp only[mF,aq] at hv;cases c:bs[i]? with
  | none=>rw[c] at hv;simp at hv
  | some b =>
   rw[c] at hv;simp at hv;subst hv;simp only[c,jW] at l;exact d6 l
 ·have g:∀b o,s.heap.get? b=some o->h'.get? b=some o:=λb o e=>n b o (λm=>by
   simp only[fV] at m;subst m;rw[oR] at e;cases e) (ay _ e)
  have e:(bG (bs.map kY).toArray.size).all (λi=>(bs[i]?).getD false)=bs.all λb=>b:=by
   rw[gY];simp only[aN,ch,aH,ya];constructor
   ·intro q b c;refine cG (cQ c) λi k=>?_;obtain⟨hi,rfl⟩:=k;simpa [hi] using q i hi
   ·intro q i hi;simpa [hi] using q _ (eW hi)
  rw[e];exact⟨ι,H,_,Post.keep w.hr g,VR.mkBool _,h⟩
theorem FC {i j:Nat}{l m:List AV}{Q:PQ}(hi:H[i]?=some (.list l)) (z:H[j]?=some (.list m)) (k:l.length+m.length<=1000000) (h:Q .none (H.set i (.list (l++m)))) :
  OpOK P d (λvs=>call (.builtin "list.extend") vs) [.ref i,.ref j] H Q:=fn2 λA E ι s u v w q r=>by
 refine aK (q) λa e o=>?_;clear q;subst e;refine aK (w.hr.list o hi) λvs c t=>?_;refine cG (c) λn pl=>?_;clear c;have f:1000000<=ag:=by unfold ag;exact z100
 have g:=t.length;refine aK (r) λb e y=>?_;clear r;subst e;refine aK (w.hr.list y z) λws c x=>?_;refine cG (c) λB C=>?_;clear c;have p:=x.length;refine mw PySem.F.slot_list_extend ⟨_,pl,rfl⟩ PySem.F.entry_list_extend (PySem.F.args_list_extend_2 _ _) (AutoSeq1.list_extend_list_list_0 a vs.toArray n b ws.toArray B ?_ (by rw[aH];exact z101 k f g) (by simp only[aH];exact z102 k f g p)) ⟨pl,C,?_⟩
 ·simp only[aS,not_and];intro _;simp only[Builtin.List.listTooLong,aH,g,p,decide_eq_true_eq];exact z103 k f
 ·refine c7 (uW pl (λxs=>xs++ws.toArray)) λp1 p2=>?_;exact uP (vs:=vs++ws) w.hr o p2 (by simpa using p1) (t.append x) VR.mkNone h s.toks
end Mine
namespace Mine
open PySem
variable {P:PEnv}{C:Ctx}{d:Nat}{loc:Loc}{H:Hp}{X:XP}
def p8 (P:PEnv) (tt:Bool) (d:Nat) (t:List Value->Sem Value) (args:List AV) (H:Hp) (K:List AV->(Hp->Prop)->Hp->Prop):Prop :=
 ∀A E ι s vs,W P.B A d ι H s->VRs P.B s.heap ι args vs->aP (model P.prog P.w) A (t vs) (ItG P tt A ι s K) E s
theorem C1 {tt:Bool}{x:Str}{T:String}{t:Pos}{f:Expr}{K:List AV->(Hp->Prop)->Hp->Prop}(ok:P.OK) (q:C.names.lookup x=some .globalImplicit) (m:(x == ("__debug__" : Str))=false)
  (p:P.mg x=none) (j:P.mb x=some (.type T))
  (h:lH P C d (f::es) loc H (λc H'=>p8 P tt d (λvs=>call (.type T) vs) c H' K) X) (n:∀env,bD (f::es) env=(false,eval f env)::bD es env) (r:pQ es) :
  ItEv P tt C d (.Call (.Name x t) (f::es) [] pos) loc H K X:=λA E env ι s w e a=>by
 refine PyProof.Rows.Call_ (bk e.kind (by unfold cC;rw[e.names];exact q) (dL (e.glob▸ok.g.keeps λb o e=>w.hr.base b o e) p (e.blt▸ok.b.keeps λb o e=>w.hr.base b o e) j ?_) m);refine PyProof.Rows.callWith_type1 (gll (h A E env ι s pos w e a) (λvs s1 ι1 z l p1 u g=>?_)) (n env) (r env pos);refine gi (g A E ι1 s1 vs (w.step p1) u) λv s' ι2 i items Cnd s0 p2 y k=>?_;exact⟨ι2,i,items,Cnd,s0,p1.trans p2,y,k⟩
theorem Fg {n:Nat}(h:k<n):0<(n:Int)-k:=by exact z104 h
theorem zt {tt:Bool}{t u v:Tok}{r:Addr}(G:HR P.B ι H s.heap) (D:IsRange s.heap r a b 1 t u v) (w : -(2^62)<=a) (f:a<2^62) (y : -(2^62)<=b) (g:b<2^62) :
  rT P tt A ι ((bG (b-a).toNat).map λ(k:Nat)=>AV.int (a+k)) (λ_=>True) (.ref r) s s:=λE Q h=>by
 refine wpAny_pyIter_range D (small_one w f y g) ?_;have rs:Builtin.Range.rangeSize a b 1=((b-a).toNat:Int):=by rw[rangeSize_one];split<;>lia
 rw[rs];refine One.new (P:=P) (T := "range_iterator") (At:=λk o=>o={ cls:=.type "range_iterator",dict:=none,data:=.fields #[rawInt (a+k),rawInt (((b-a).toNat:Int)-k),rawInt 1],slots:=#[] }) (Pre:=λ_ _=>True) h
  ⟨λk o z=>⟨by rw[z],by rw[z];exact pS rfl⟩,by decide,λ_ _ _ _ _ _ _ _ _=>trivial,?_,?_,λA E s k Q q c=>aK q λo e z=>wpAny_pyIter_rangeiter (z▸e) c⟩ (by rw[Int.natCast_zero,Int.add_zero,Int.sub_zero]) rfl trivial
 ·intro A E ι1 p s1 k x Q m i C _ q j c;refine aK q λo e z=>?_;subst z;have n:k<(b-a).toNat:=by
   have:=(ym j).1
   rwa [ya,gj] at this
  rw[aq,g0 n] at j;refine wpAny_pyNext_range_item e (Fg n) λh' l F=>c _ h' (s1.toks+1) (yj j▸VR.mkInt _ _) ⟨_,l,?_⟩ F;rw[fX,Int.natCast_one,Int.add_assoc,nI]
 ·intro A E ι1 p s1 Q m i C _ q c;refine aK q λo e z=>?_;subst z;rw[ya,gj] at e;exact wpAny_pyNext_range_end m e (Int.le_of_eq (Int.sub_self _)) λh' d=>c h' s1.toks d
theorem FG {tt:Bool}{n:Int}{K:List AV->(Hp->Prop)->Hp->Prop}(f : -(2^62)<=n) (g:n<2^62) (h:K ((bG n.toNat).map λ(k:Nat)=>AV.int k) (λ_=>True) H):p8 P tt d (λvs=>call (.type "range") vs) [.int n] H K:=λA E ι s vs w rs=>by refine aK (vrs1 rs) λu c r=>?_;subst c;clear rs;refine cG (r) λt c=>?_;clear r;subst c;refine call_range_1 ?_;have p:Post P.B ι s ι H { s with heap:=s.heap.push { cls:=.type "range",data:=.fields #[.int 0 s.toks,.int n t,.int 1 (s.toks+1)] },toks:=s.toks+1+1 }:=Post.keep w.hr λb o e=>ay _ e;refine⟨ι,H,_,_,_,p,zt (a:=0) (b:=n) p.hr (IsRange.new ..) (by exact Int.neg_ofNat_le_ofNat (2^62) 0) (by exact z105) f g,?_⟩;simpa using h
theorem FH {tt:Bool}{a b:Int}{K:List AV->(Hp->Prop)->Hp->Prop}(m : -(2^62)<=a) (g:a<2^62) (n : -(2^62)<=b) (i:b<2^62) (h:K ((bG (b-a).toNat).map λ(k:Nat)=>AV.int (a+k)) (λ_=>True) H):p8 P tt d (λvs=>call (.type "range") vs) [.int a,.int b] H K:=λA E ι s vs w rs=>by refine eX (vrs2 rs) λu v f j l=>?_;subst f;clear rs;refine cG (j) λt c=>?_;clear j;subst c;refine cG (l) λt' c=>?_;clear l;subst c;refine call_range_2 ?_;have p:Post P.B ι s ι H { s with heap:=s.heap.push { cls:=.type "range",data:=.fields #[.int a t,.int b t',.int 1 s.toks] },toks:=s.toks+1 }:=Post.keep w.hr λb o e=>ay _ e;exact⟨ι,H,_,_,_,p,zt (a:=a) (b:=b) p.hr (IsRange.new ..) m g n i,h⟩
theorem wM {n:Nat}(h:k<n):(n:Int)-1-k=((n-1-k:Nat):Int)/\(n:Int)-1-(k+1:Nat)=((n-1-k:Nat):Int)-1:=by exact z106 h
theorem BO {tt:Bool}{i:Nat}{l:List AV}{K:List AV->(Hp->Prop)->Hp->Prop}(hi:H[i]?=some (.list l)) (h:K l.reverse (λH'=>H'[i]?=some (.list l)) H):p8 P tt d (λvs=>call (.type "reversed") vs) [.ref i] H K:=λA E ι s vs w rs=>by
 refine aK (vrs1 rs) λu j r=>aK r λa J g=>?_;subst j;subst J;clear rs r;have b:∀{ι H h},HR P.B ι H h->H[i]?=some (.list l)->ι[i]?=some a->∃vs,h.PlainList a (aW vs)/\VRs P.B h ι l vs:=λM hi g=>aK (M.objs i _ hi) λZ m o=>yj (m.symm.trans g)▸o;refine aK (b w.hr hi g) λws pl U=>?_;refine call_reversed_list pl.isList ?_;have O:(ws.toArray.size:Int)=l.length:=by rw[aH,U.length]
 rw[O];refine⟨ι,H,l.reverse,_,s,Post.id w.hr,λY Q L=>wpAny_pyIter_revIter ⟨_,ba _ rfl,rfl,rfl⟩ ?_,h⟩;refine One.new (P:=P) (T := "list_reverseiterator") (At:=λk o=>o.cls=.type "list_reverseiterator" /\ o.data=.fields #[.ref a,rawInt ((l.length:Int)-1-k)]) (Pre:=λι _=>ι[i]?=some a) L
  ⟨λk o z=>⟨z.1,pS z.2⟩,by decide,λι ι' S h h' q _ _ R=>ou R q,?_,?_,λA E s k Q q c=>wpAny_pyIter_revIter q c⟩ ⟨rfl,by rw[Int.natCast_zero,Int.sub_zero];rfl⟩ rfl g
 ·intro A E ι1 I s1 k x Q F e D G f t c;have p:k<l.length:=by
   have:=(ym t).1
   rwa [nF] at this
  rw[List.getElem?_reverse p] at t;refine aK (b e D G) λX y C=>aK (C.get t) λu N V=>?_;rw[(wM p).1] at f;refine wpAny_pyNext_rev_item f y.isList (x:=u) (by simpa using N) λh' v W=>c u h' s1.toks V ?_ W;rw[(wM p).2];exact v
 ·intro A E ι1 I s1 Q F e D G f c;rw[nF,show(l.length:Int)-1-l.length = -1 by exact iV.mpr rfl] at f;exact wpAny_pyNext_rev_end F f λh' n=>c h' s1.toks n
noncomputable def kQ (n:Nat):Option Int->Nat->Nat
 | some k,_=>min k.toNat n
 | none,dflt=>dflt
noncomputable def gm {α:Type}(l:List α) (lo hi:Option Int):List α:=(l.drop (kQ l.length lo 0)).take (kQ l.length hi l.length-kQ l.length lo 0)
def mO:Option Int->Prop|some k=>0<=k|none=>True
theorem VRs.slice {lo hi:Option Int}(r:VRs B h ι l vs):VRs B h ι (gm l lo hi) (gm vs lo hi):=by unfold gm;rw[r.length];exact(r.drop _).take _
theorem w6 {n:Nat}{o:Option Int}{a:Nat}(h:mO o):o.elim a (clipAt n)=kQ n o a:=by
 cases o with
 | none=>rfl
 | some k =>
  refine cG (aV h) λj b=>?_;subst b;show clipAt n (j:Int)=min _ _;rw[clipAt_nat];simp
def qf (P:PEnv) (C:Ctx) (d:Nat) (o:Option Expr) (loc:Loc) (H:Hp) (Q:Option Int->Hp->Prop) (X:XP):Prop :=
 match o with
 | none=>Q none H
 | some e=>EvOK P C d e loc H (λv H'=>∃k,v=.int k/\Q (some k) H') X
theorem sW {o:Option Expr}{Q:Option Int->Hp->Prop}(h:qf P C d o loc H Q X):∀A E env ι s,W P.B A d ι H s->EnvR P.B C env ι s.heap loc->Acc P A X ι s E ->
  aP (model P.prog P.w) A (evalPart o env) (λv s1=>∃ι1 c k,Post P.B ι s ι1 c s1/\IsPart v k/\Q k c) E s:=λA E env ι s w e a=>by
 cases o with
 | none=>exact aJ ⟨ι,H,none,Post.id w.hr,.none,h⟩
 | some x =>
  refine gv (h A E env ι s w e a) (λv s1 ι1 c av p1 f g=>?_);refine aK (g) λk b q=>?_;clear g;subst b;refine cG (f) λt b=>?_;clear f;subst b;exact⟨ι1,c,some k,p1,.int k t,q⟩
theorem y_ {prog:Program}{w:World}{a:Expr}{b c:Option Expr}{p:Pos}{T id:String}{Q:Value->Shared->Prop}
  (e:typeLookup (.type T) "__getitem__" = pure (some (.builtin id)))
  (h:aP (model prog w) A (eval a env) (λo s1=>aP (model prog w) A (eval (.Slice b c none p) env) (λi d=>d.TypeIs o T/\aP (model prog w) A (getItem o i) Q E d) E s1) E s) :
  aP (model prog w) A (eval (.Subscript a (.Slice b c none p) pos) env) Q E s:=by
 rw[eval_Subscript];refine ad (aD h (λo s1 h₁=>ad (g7 (aD h₁ (λi d h₂=>ad (fG ?_)) λ_ _ x=>x))) λ_ _ x=>x);have fin:aP (model prog w) A (operate [i,o] (getItem o i)) (λr f=>aP (model prog w) A (letTemporaryGo a o r >>= λ_=>pure r) Q E f) E d :=
  wpAny_operating (aD h₂.2 (λr f g=>ad (wpAny_letTemporaryGo (aJ g))) λ_ _ x=>x)
 first
  | (refine ad ?_
     rw[getitemInPython_of_ne h₂.1.not_modules];refine ad (hO h₂.1 e ?_)
     first
       | exact aJ (ad fin)
       | exact ad (aJ (ad fin)))
  | (refine ad (hO h₂.1 e ?_)
     exact ad fin)
theorem EN {o:Expr}{lo hi:Option Expr}{p pos:Pos}{Q:PQ}
  (h:EvOK P C d o loc H (λx F=>qf P C d lo loc F (λa G=>qf P C d hi loc G (λb i=>∃l,seqL i x=some l/\l.length<=ag/\mO a/\mO b/\Q (.ref i.length) (i++[.list (gm l a b)])) X) X) X) :
  EvOK P C d (.Subscript o (.Slice lo hi none p) pos) loc H Q X:=λA E env ι s w e a=>by
 refine y_ (T := "list") slot_list_getitem.lookup (gv (h A E env ι s w e a) (λu s1 ι1 F x p1 S g=>?_));refine wpAny_Slice (aD (sW g A E env ι1 s1 (w.step p1) (e.step w.hr p1) (a.step p1)) (λv U g=>?_) λ_ _ x=>x);refine kM (g) λι2 G y p2 O g=>?_;have c:=p1.trans p2;refine aD (sW g A E env ι2 U (w.step c) (e.step w.hr c) (a.step c)) (λL f g=>?_) λ_ _ x=>x;refine kM (g) λk i z p3 r j=>?_;clear g;refine pT (j) λl N n R ob q=>?_;clear j;refine aJ ?_;have D:=c.trans p3;have rx:=p3.vr p2.hr (p2.vr p1.hr S);refine eX (oD p3.hr rx N) λV vs m J K=>?_;subst m;have I:∀b o,f.heap.get? b=some o->(f.heap.push { cls:=.type "slice",data:=.fields #[v,L,.none] }).get? b=some o:=λb o e=>ay _ e;have p4:Post P.B k f k i { f with heap:=f.heap.push { cls:=.type "slice",data:=.fields #[v,L,.none] } }:=Post.keep (t:=f.toks) p3.hr I;refine⟨(J.push _).typeIs,wpAny_getItem_list_slice (J.push _) (Heap.IsSliceOf.new ..) O r .none (by simp) ?_ (by rw[aH,K.length];exact n)⟩;have M:slicePick vs.toArray y z none=(gm vs y z).toArray:=by rw[slicePick_plain,aH,w6 R,w6 ob];rfl
 rw[M];have:=vx (P:=P) (Q:=Q) p4.hr (VRs.slice (lo:=y) (hi:=z) (K.kept I (af _))) q;exact(this.before p4).before D
theorem A1 {e:Expr}{pos:Pos}{Q:PQ}(h:EvOK P C d e loc H (λv H'=>∃k,v=.int k/\Q (.int (-k)) H') X):EvOK P C d (.UnaryOp .USub e pos) loc H Q X:=λA E env ι s w f a=>by refine wpAny_UnaryOp (gv (h A E env ι s w f a) (λu s1 ι1 i av p1 c g=>?_));refine aK (g) λk b q=>?_;clear g;subst b;refine cG (c) λt b=>?_;clear c;subst b;exact PySem.P.neg_int ((Gives.now _ p1.hr (VR.mkInt _ _) q).before p1)
theorem GO {p g:Expr}{o:AV}{l:List AV}{k:Int}{x:AV}{Q:PQ}(y:seqL H o=some l) (r:l.length<2^62) (q:k<0) (i:0<=k+l.length) (B:l[(k+l.length).toNat]?=some x) (h:Q x H):pH P d p g o (.int k) H Q:=op2 λA E ι s u v w F m=>by
 refine eX (oD w.hr F y) λa vs f j n=>?_;subst f;refine cG (m) λt c=>?_;clear m;subst c;refine aK (n.get B) λz C G=>?_;refine cG (rB g (.ref a) (.int k t)) λD b=>?_;have e:(aW vs).size=l.length:=by rw[aH,n.length]
 exact PyProof.Rows.tail_any j.typeIs slot_list_getitem.lookup (wpAny_getItem_list_neg j q (by rw[e];exact Int.add_nonneg_iff_neg_le.mp i) (by exact z107 r i) (by rw[e];simpa using C) (Gives.same w.hr G h)) b
abbrev rH (P:PEnv) (d:Nat) (o k x:AV) (H:Hp) (Q:Hp->Prop):Prop :=
 ∀A E ι s uo uk ux,W P.B A d ι H s->VR P.B s.heap ι o uo->VR P.B s.heap ι k uk->VR P.B s.heap ι x ux->aP (model P.prog P.w) A (setItem uo uk ux) (λ_ s'=>∃ι' H',Post P.B ι s ι' H' s'/\Q H') E s
theorem EP {i:Nat}{l:List AV}{k:Int}{x:AV}{Q:Hp->Prop}(hi:H[i]?=some (.list l)) (D:l.length<2^62) (q:0<=k) (r:k<l.length) (h:Q (H.set i (.list (l.set k.toNat x)))):rH P d (.ref i) (.int k) x H Q:=λA E ι s J I f w u v G=>by
 refine aK (u) λa b g=>?_;clear u;subst b;refine cG (v) λt b=>?_;clear v;subst b;refine aK (w.hr.list g hi) λvs e y=>?_;refine cG (e) λn pl=>?_;clear e;have m:s.heap.IsList a vs.toArray:=⟨_,pl,rfl,n,rfl⟩;have c:=y.length;unfold setItem
 try with_reducible refine g7 ?_
 first|refine ad (aJ ?_)|skip
 refine ad (wpAny_sequenceKey m.typeIs (by decide) ?_);refine ad (wpAny_callSpecial?_slot (name:=ae "__setitem__") m.typeIs slot_list_setitem
  (eH slot_list_setitem m.typeIs entry_list_setitem ?_ (args_list_setitem _ _ _)))
 show aP _ _ (Builtin.List.listSubscript? (.int k t) >>= _) _ _ s;refine ad (wpAny_listSubscript_int (fitsIndex_of q (by exact z108 D r)) ?_);refine cG (aV q) λj b=>?_;subst b;have C:j<vs.toArray.size:=by rw[aH];exact z109 c r
 have p:vs.toArray[j]?=some vs.toArray[j]:=Array.getElem?_eq_getElem C;refine ad (ad (wpAny_seqItemAt pl rfl (aJ ?_)));rw[p];refine ad (wpAny_setSeqItemAt pl rfl ?_);refine c7 (uW pl (·.setIfInBounds j f)) λp1 p2=>?_;have F:a∈ι:=yc g;have z:vs.toArray.setIfInBounds j f=(vs.set j f).toArray:=by simp
 rw[z] at p1;have fin:∃ι' H',Post P.B ι s ι' H' { s with heap:=s.heap.update a (fY (·.setIfInBounds j f)) }/\Q H' :=
  ⟨ι,_,Post.upd (t:=s.toks) w.hr g p2 (o:=.list (l.set j x)) ⟨_,p1,w.hr.vrs_upd F p2 (y.set G)⟩,h⟩
 first
  | exact ad (aJ (aJ ⟨.none,rfl,aJ fin⟩))
  | exact aJ ⟨.none,rfl,aJ fin⟩
theorem GM {B h:Heap}{ι:List Addr}{k:Int}{x:AV}{v:Value}{l:List (Int×AV)}{kvs:List (Int×Value)}(a:kvs.map (·.1)=l.map (·.1)) (hv:VRs B h ι (l.map (·.2)) (kvs.map (·.2))) (rx:VR B h ι x v) :
  (stored kvs k v).map (·.1)=(dset l k x).map (·.1)/\VRs B h ι ((dset l k x).map (·.2)) ((stored kvs k v).map (·.2)):=by
 have g:(kvs.any λc=>decide (c.1=k))=l.any λc=>decide (c.1=k):=by
  have e:∀(m:List Int),m.any (λz=>decide (z=k))=m.any (λz=>decide (z=k)):=λ_=>rfl;have n:(kvs.any λc=>decide (c.1=k))=(kvs.map (·.1)).any λz=>decide (z=k):=by rw[List.any_map];rfl
  have o:(l.any λc=>decide (c.1=k))=(l.map (·.1)).any λz=>decide (z=k):=by rw[List.any_map];rfl
  rw[n,o,a]
 unfold stored dset;rw[g];split
 ·rename_i p;clear g p
  induction l generalizing kvs with
  | nil =>
   have:kvs=[]:=by simpa using a
   subst this;exact⟨rfl,rfl⟩
  | cons y l ih =>
   cases kvs with
   | nil=>simp at a
   | cons z kvs =>
    obtain⟨k1,w⟩:=y;obtain⟨k2,u⟩:=z;simp only[aF,gW] at a;refine c7 (a) λb q=>?_;clear a;revert q;intro a;subst b;refine eX (hv) λt s e r rr=>?_;clear hv;simp only[aF,gW] at e;refine c7 (e) λb f=>?_;clear e;subst b;subst f;refine c7 (ih a rr) λi j=>?_
    by_cases d:k2=k
    ·subst d;simp only[aF,if_true,i];exact⟨trivial,VRs.cons rx j⟩
    ·simp only[aF,d,if_false,i];exact⟨trivial,VRs.cons r j⟩
 ·simp only[aQ,a,aF,g9];exact⟨trivial,hv.append (VRs.cons rx rfl)⟩
theorem Fi {i:Nat}{l:List (Int×AV)}{k:Int}{x:AV}{Q:Hp->Prop}(hi:H[i]?=some (.dict l)) (u:l.length<=ag) (h:Q (H.set i (.dict (dset l k x)))):rH P d (.ref i) (.int k) x H Q:=λA E ι s F D G w m n B=>by
 refine aK (m) λa c f=>?_;clear m;subst c;refine cG (n) λt c=>?_;clear n;subst c;refine eT (w.hr.dict f hi) λkvs r j hv=>?_;have v:a∈ι:=yc f;have e:kvs.length=l.length:=by have:=congrArg eg j;simpa using this
 refine wpAny_setItem_pairs (knd:=intKind P.prog P.w) (k:=k) (by simp[intKind,gF]) r (λh' g C=>?_) (by exact le_of_eq_of_le e u);have p2:∀b o,b≠a->s.heap.get? b=some o->h'.get? b=some o:=λb o q p=>C.extBut b o q p;refine c7 (GM (k:=k) j hv B) λy z=>?_;exact⟨ι,_,Post.upd (t:=s.toks+1) w.hr f p2 (o:=.dict (dset l k x)) (OR.ofDict (ry w.hr f hi) g y (w.hr.vrs_upd v p2 z)),h⟩
theorem EO {o i v:Expr}{p:Pos}{Q:MFlow->Loc->Hp->Prop}
  (h:EvOK P C d v loc H (λx l=>EvOK P C d o loc l (λy m=>EvOK P C d i loc m (λz n=>rH P d y z x n (λc=>Q .next loc c)) XF) XF) XF)
  (r:∀env,dQ v (some (.Subscript o i p)) pos.line env=pure false):ExOK P C d (.Assign [.Subscript o i p] v pos) loc H Q:=λA E env ι s w e=>by
 refine wpAny_Assign_Subscript (gv (h A E env ι s w e Acc.no) (λu s1 ι1 l x p1 t g=>?_)) (r env);refine gv (g A E env ι1 s1 (w.step p1) (e.step w.hr p1) Acc.no) (λI F ι2 m y p2 B g=>?_);have a:=p1.trans p2;refine gv (g A E env ι2 F (w.step a) (e.step w.hr a) Acc.no) (λf G j n z p3 D g=>?_);have b:=a.trans p3;refine aD (g A E j G I f u (w.step b) (p3.vr p2.hr B) D (p3.vr p2.hr (p2.vr p1.hr t))) (λ_ J g=>kB g λk c p4 q=>?_) λ_ _ x=>x;exact⟨k,c,loc,.next,(b.trans p4).toS,e.step w.hr (b.trans p4),rfl,q⟩
end Mine
namespace Mine
open PySem
variable {P:PEnv}{C:Ctx}{d:Nat}{loc:Loc}{H:Hp}{X:XP}
theorem GZ {M:Model}{l:Addr}{o:Obj}{nm:Str}{id:String}{pl:Sem Bool}{Q:Value×List Value->Shared->Prop}(b:s.heap.get? l=some o) (c:o.cls=.type "list") (d:o.dict=none)
  (e:typeLookup (.type "list") nm=pure (some (.builtin id))) (f:typeOf (.builtin id)=pure (.type "method_descriptor"))
  (h:Q (.builtin id,[.ref l]) s):aP M A (getMethod (.ref l) nm pl) Q E s:=by
 have a:s.TypeIs (.ref l) "list" := ⟨o,b,c⟩;refine ad (hO a list_getattribute ?_);show aP M A (if (Manifest.canonical "list.__getattribute__" != "object.__getattribute__")=true then _ else _) Q E s;rw[canon_list_getattribute,if_neg hJ];refine ad (hO a list_getattr_none ?_);refine ad (hO a e ?_);refine ad (wpAny_of_eq f ?_);refine ad (wpAny_load b ?_);rw[d];exact ad (fQ (aJ h))
theorem uV {i:Nat}{l:List AV}{nm:Str}{id:String}(hi:H[i]?=some (.list l)) (f:typeLookup (.type "list") nm=pure (some (.builtin id))) (j:typeOf (.builtin id)=pure (.type "method_descriptor")):qS P (.ref i) H nm id:=λA E ι s v pl Q g r h=>by refine aK (r) λa c d=>?_;clear r;subst c;refine aK (g.list d hi) λvs b _=>?_;refine cG (b) λn e=>?_;clear b;exact GZ e rfl rfl f j h
theorem CM {i:Nat}{l:List (Int×AV)}{Q:PQ}(ok:P.OK2) (hi:H[i]?=some (.dict l)) (j:l.length<2^62) (h:Q (.int l.length) H):OpOK P d (λvs=>call (.builtin "len") vs) [.ref i] H Q:=fn1 λA E ι s u w r=>by
 refine aK (r) λa c e=>?_;clear r;subst c;refine eT (w.hr.dict e hi) λkvs f g hv=>?_;have b:kvs.length=l.length:=by have:=congrArg eg g;simpa using this
 refine call_len_dict (ry w.hr e hi) f (by exact z110 j b) (Gives.now _ w.hr (av:=.int l.length) ?_ h);rw[b];exact VR.mkInt _ _
theorem Cr {Q:PQ}(ok:P.OK2) (h:Q (.ref H.length) (H++[.dict []])):EvOK P C d (.Dict [] [] pos) loc H Q X:=λA E env ι s w e a=>by
 refine wpAny_Dict_empty ?_;have f:∀b o,s.heap.get? b=some o->(s.heap.push { cls:=.type "dict",data:=.dict #[] }).get? b=some o:=λb o e=>ay _ e;refine⟨_,_,.ref H.length,Post.alloc (t:=s.toks) w.hr f (oR _) (o:=.dict []) ⟨?_,eV,[],0,ba _ rfl,rfl⟩,?_,h⟩
 ·refine kB (ok.low) λb o c g=>?_;have:=ci (w.hr.base b o c);rw[beq_eq_false_iff_ne];intro e;rw[e] at this;exact c9 _ (eP g this)
 ·exact⟨_,rfl,by rw[<-w.hr.len];simp⟩
theorem Cq {l m r:Expr}{n o2:CmpOp}{pos:Pos}{Q:PQ}
  (h:EvOK P C d l loc H (λx q=>EvOK P C d m loc q (λy t=>kP P d n x y t (λc j=>∃b,c=.bool b/\if b then EvOK P C d r loc j (λz v=>kP P d o2 y z v Q) X else Q (.bool false) j)) X) X)
  (F:lastMarks [n,o2] [m,r]=false) :
  EvOK P C d (.Compare l [n,o2] [m,r] pos) loc H Q X:=λA E env ι s w e a=>by
 refine PyProof.Rows.Compare_chain (gv (h A E env ι s w e a) (λu s1 ι1 q x p1 I g=>?_)) F;refine PyProof.Rows.chain_link (gv (g A E env ι1 s1 (w.step p1) (e.step w.hr p1) (a.step p1)) (λD L ι2 t y p2 B g=>?_));refine gv (g A E ι2 L [u,D] ((w.step p1).step p2) ⟨_,_,rfl,p2.vr p1.hr I,_,_,rfl,B,rfl⟩) (λc M i j cv p3 J g=>?_);refine aK (g) λb k G=>?_;clear g;revert G;intro g;subst k;have f:=(p1.trans p2).trans p3;cases J;refine d6 ?_;cases b with
 | false=>exact⟨i,j,.bool false,f,VR.mkBool _,g⟩
 | true =>
  refine PyProof.Rows.chain_last (gv (g A E env i M (w.step f) (e.step w.hr f) (a.step f)) (λo N p v z p4 K g=>?_));exact aD (g A E p N [D,o] (w.step (f.trans p4)) ⟨_,_,rfl,p4.vr p3.hr (p3.vr p2.hr B),_,_,rfl,K,rfl⟩) (λ_ _ g=>(g.before p4).before f) λ_ _ x=>x
theorem DE {l m r:Expr}{n o2:CmpOp}{pos:Pos}{Q:Bool->Hp->Prop}
  (h:EvOK P C d l loc H (λx q=>EvOK P C d m loc q (λy t=>kP P d n x y t (λc j=>∃b,c=.bool b/\if b then EvOK P C d r loc j (λz B=>kP P d o2 y z B (λv H'=>∃b,v=.bool b/\Q b H')) X else Q false j)) X) X)
  (G:lastMarks [n,o2] [m,r]=false) :
  TsOK P C d (.Compare l [n,o2] [m,r] pos) loc H Q X:=λA E env ι s w e a=>by
 refine PyProof.Rows.isTrue_chain (gv (h A E env ι s w e a) (λu s1 ι1 q x p1 J g=>?_)) G;refine PyProof.Rows.test_link (gv (g A E env ι1 s1 (w.step p1) (e.step w.hr p1) (a.step p1)) (λF M ι2 t y p2 D g=>?_));refine gv (g A E ι2 M [u,F] ((w.step p1).step p2) ⟨_,_,rfl,p2.vr p1.hr J,_,_,rfl,D,rfl⟩) (λc N i j cv p3 K g=>?_);refine aK (g) λb k I=>?_;clear g;revert I;intro g;subst k;have f:=(p1.trans p2).trans p3;cases K;refine d6 ?_;cases b with
 | false=>exact⟨i,j,f,g⟩
 | true =>
  refine PyProof.Rows.test_last (gv (g A E env i N (w.step f) (e.step w.hr f) (a.step f)) (λo O p B z p4 L g=>?_));exact aD (g A E p O [F,o] (w.step (f.trans p4)) ⟨_,_,rfl,p4.vr p3.hr (p3.vr p2.hr D),_,_,rfl,L,rfl⟩) (λ_ _ g=>uO ((g.before p4).before f)) λ_ _ x=>x
theorem GB {a:List Expr}{k:Nat}{b:Pos}{v:Expr}{pos:Pos}{is:List Nat}{Q:MFlow->Loc->Hp->Prop}(n:Names C a is)
  (h:EvOK P C d v loc H (λx H'=>∃ws,x=.tup ws/\ws.length=is.length/\Q .next (nf (is.zip ws) loc) H') XF)
  (o:∀env,swapsWithSole [.Tuple a k b] v pos.line env=pure false) (p:∀env,swappedStores [.Tuple a k b] v env=pure none):ExOK P C d (.Assign [.Tuple a k b] v pos) loc H Q:=λA E env ι s w e=>by
 refine PyProof.Rows.Assign_Tuple (gv (h A E env ι s w e Acc.no) (λu s1 ι1 f x p1 r g=>?_)) (o env) (p env);refine eT (g) λws i m q=>?_;clear g;subst i;refine aD (ub (P:=P) (k:=k) (pos:=b) (K:=λl=>Q .next l f) n m q A E env ι1 f s1 u w.room.handled p1.hr (e.step w.hr p1) r) (λ_ t g=>?_) λ_ _ x=>x;obtain⟨c,ps,j,q⟩:=g;exact⟨ι1,f,c,.next,PostS.trans p1.toS ps j.offOwn,j,rfl,q⟩
mutual
noncomputable def clean:AV->Bool
 | .ref _=>false
 | .obj _=>false
 | .tup l=>cleans l
 | .fro l=>cleans l
 | _=>true
noncomputable def cleans:List AV->Bool
 | []=>true
 | x::l=>clean x&&cleans l
end
mutual
theorem VR.clean {B h:Heap}{ι ι':List Addr}:∀{x:AV}{v:Value},clean x=true->VR B h ι x v->VR B h ι' x v
 | .none,_,_,r=>r
 | .bool _,_,_,r=>r
 | .int _,_,_,r=>r
 | .str _,_,_,r=>r
 | .ref _,_,c,_=>nomatch (show false=true from c)
 | .obj _,_,c,_=>nomatch (show false=true from c)
 | .tup l,v,c,r=>by refine eX (r) λa vs e t q=>?_;clear r;exact⟨a,vs,e,t,VRs.clean (show cleans _=true from c) q⟩
 | .fro l,v,c,r=>by refine eX (r) λa vs e t q=>?_;clear r;exact⟨a,vs,e,t,VRs.clean (show cleans _=true from c) q⟩
theorem VRs.clean {B h:Heap}{ι ι':List Addr}:∀{l:List AV}{vs:List Value},cleans l=true->VRs B h ι l vs->VRs B h ι' l vs
 | [],_,_,r=>r
 | x::l,vs,c,r=>by refine eX (r) λv t e a b=>?_;clear r;have c:=je.mp c;exact⟨v,t,e,VR.clean c.1 a,VRs.clean c.2 b⟩
end
mutual
theorem VR.shrink {B h h':Heap}{ι ι':List Addr}(p:ι<+:ι'):∀{x:AV}{v u:Value},VR B h ι x v->VR B h' ι' x u->VR B h' ι x u
 | .none,_,_,_,r=>r
 | .bool _,_,_,_,r=>r
 | .int _,_,_,_,r=>r
 | .str _,_,_,_,r=>r
 | .ref i,_,_,r,r'=>by
  refine aK (r) λa e g=>?_;clear r;refine aK (r') λb c f=>?_;clear r';have j:a=b:=by have:=ou p g;rw[f] at this;exact(yj this).symm
  subst j;exact⟨a,c,g⟩
 | .tup l,_,_,r,r'=>by refine eX (r) λa vs e t q=>?_;clear r;refine eX (r') λb d c t' n=>?_;clear r';exact⟨b,d,c,t',VRs.shrink p q n⟩
 | .fro l,_,_,r,r'=>by refine eX (r) λa vs e t q=>?_;clear r;refine eX (r') λb d c t' n=>?_;clear r';exact⟨b,d,c,t',VRs.shrink p q n⟩
 | .obj k,_,_,r,r'=>by
  refine eX r λa s e g o=>eX r' λb m c f o'=>?_;have j:s=m:=by have:=ou p g;rw[f] at this;exact(yj this).symm
  subst j;exact⟨b,s,c,g,o'⟩
theorem VRs.shrink {B h h':Heap}{ι ι':List Addr}(p:ι<+:ι'):∀{l:List AV}{vs c:List Value},VRs B h ι l vs->VRs B h' ι' l c->VRs B h' ι l c
 | [],_,_,_,r=>r
 | x::l,_,_,r,r'=>by refine eX (r) λv t e a b=>?_;clear r;refine eX (r') λi t' g d f=>?_;clear r';exact⟨i,t',g,VR.shrink p a d,VRs.shrink p b f⟩
end
theorem ERs.shrink {B h h':Heap}{ι ι':List Addr}(p:ι<+:ι'):∀{l:List (Int×AV)}{es c:List DictEntry},ERs B h ι l es->ERs B h' ι' l c->ERs B h' ι l c
 | [],_,_,_,r=>r
 | (k,x)::l,_,_,r,r'=>by refine kM (r) λt v es e a b=>?_;clear r;refine kM (r') λt' i c g d f=>?_;clear r';exact⟨t',i,c,g,VR.shrink p a d,ERs.shrink p b f⟩
theorem OR.shrink {B h h':Heap}{ι ι':List Addr}(p:ι<+:ι'){a i:Addr}:∀{o:AObj},OR B h ι a o->OR B h' ι' i o->OR B h' ι i o
 | .list l,r,r'=>by refine aK (r) λvs _ q=>?_;clear r;refine aK (r') λg pl d=>?_;clear r';exact⟨g,pl,VRs.shrink p q d⟩
 | .dict l,r,r'=>by refine fT (r) λ_ _ b=>?_;clear r;refine kB (b) λes n _ q=>?_;clear b;refine fT (r') λf nd b=>?_;clear r';refine kB (b) λc j e d=>?_;clear b;exact⟨f,nd,c,j,e,ERs.shrink p q d⟩
 | .dicE l n,r,r'=>by refine fT (r) λ_ _ b=>?_;clear r;refine aK (b) λes _ q=>?_;clear b;refine fT (r') λf nd b=>?_;clear r';refine aK (b) λc e d=>?_;clear b;exact⟨f,nd,c,e,ERs.shrink p q d⟩
theorem Post.shrink {B:Heap}{ι ι':List Addr}{s s':Shared}{H H':Hp}(c:HR B ι H s.heap) (p:Post B ι s ι' H' s') (b:H<+:H'):Post B ι s ι H s':=by
 refine⟨af _,⟨p.hr.base,c.fresh,c.nodup,c.len,λi o e=>?_⟩,p.kept,λa m=>.inl m,p.same⟩;refine aK (c.objs i o e) λa g r=>?_;refine cG (b) λt d=>?_;clear b;subst d;have j:(H++t)[i]?=some o:=by rw[bJ (ym e).1];exact e
 refine aK (p.hr.objs i o j) λh f l=>?_;have k:a=h:=by have:=ou p.pre g;rw[f] at this;exact(yj this).symm
 subst k;exact⟨a,g,OR.shrink p.pre r l⟩
theorem Dg {Q:PQ}{v:Value}(b:HR B ι H s.heap) (g:Gives B ι s (λx H'=>H<+:H'/\Mine.clean x=true/\Q x H) v s'):Gives B ι s Q v s':=by obtain⟨ι',H',av,p,r,a,c,q⟩:=g;exact⟨ι,H,av,p.shrink b a,VR.clean c r,q⟩
theorem Df {B:Heap}{ι:List Addr}{s s':Shared}{H:Hp}{Q:PQ}{v:Value}(u:HR B ι H s.heap) (g:Gives B ι s (λx H'=>∃l j,H<+:H'/\x=.ref j/\H.length<=j/\H'[j]?=some (.list l)/\cleans l=true/\Q (.ref H.length) (H++[.list l])) v s'):Gives B ι s Q v s':=by
 obtain⟨ι',H',av,p,r,l,j,w,rfl,A,C,c,q⟩:=g;refine aK (r) λa k b=>?_;clear r;subst k;refine aK (p.hr.objs j _ C) λF d h=>?_;refine aK (h) λvs pl E=>?_;clear h;rw[b] at d;cases d;have ps:=p.shrink u w;have z:a∉ι:=λm=>by refine cG (cQ m) λi f=>?_;refine cG (f) λhi e=>?_;clear f;have y:ι'[i]?=some a:=ou p.pre (by rw[ak hi,e]);have n:i<ι'.length:=(ym y).1;have t:j<ι'.length:=(ym b).1;have:i=j:=y5 p.hr.nodup n t (by rw[(ym y).2,(ym b).2]);rw[u.len] at hi;exact z111 A hi this
 have D:s.heap.get? a=none:=(p.new a (yc b)).resolve_left z;refine⟨ι++[a],H++[.list l],.ref H.length,ps.adopt (o:=.list l) z D (p.hr.fresh a (yc b)) ⟨vs,pl,VRs.clean c E⟩,⟨a,rfl,?_⟩,q⟩;rw[<-u.len];simp
theorem sq {x:Str}{a:List AV}{Q:PQ}(h:g6 P d x a H (λv H'=>H<+:H'/\Mine.clean v=true/\Q v H) X):g6 P d x a H Q X :=
 λA ι s vs b R e w r c f=>h A ι s vs b R e w r (λv s' g=>c v s' (Dg w.hr g)) f
theorem Eb {x:Str}{a:List AV}{Q:PQ}(h:g6 P d x a H (λv H'=>∃l j,H<+:H'/\v=.ref j/\H.length<=j/\H'[j]?=some (.list l)/\cleans l=true/\Q (.ref H.length) (H++[.list l])) X):g6 P d x a H Q X :=
 λA ι s vs b R e w r c f=>h A ι s vs b R e w r (λv s' g=>c v s' (Df w.hr g)) f
end Mine
namespace Mine
open PySem PyProof.Rows
variable {P:PEnv}{C:Ctx}{d:Nat}{loc:Loc}{H:Hp}{X:XP}
theorem Aq {n:Nat}(h:0<=a):(if a<0 then max (a+n) 0 else min a n)=((min a.toNat n:Nat):Int):=by
 rw[if_neg (ie.mpr h)];refine cG (aV h) λm b=>?_;subst b;rw[cx];rcases Nat.le_total m n with q|q
 ·rw[bF q,Int.min_eq_left (br.mpr q)]
 ·rw[iJ q,Int.min_eq_right (br.mpr q)]
theorem v5 (o:Option Int) (n:Nat) (b:Int) (c:Nat) (e:b=c) (h:mO o):(match (generalizing:=false) o with|none=>b|some v=>if v<0 then max (v+n) 0 else min v n)=((kQ n o c:Nat):Int):=by
 cases o with
 | none=>exact e
 | some a=>exact Aq h
theorem Fj (lo hi:Option Int) (n:Nat) (a:mO lo) (b:mO hi):Builtin.Slice.sliceAdjust lo hi 1 (n:Int)=(((kQ n lo 0:Nat):Int),((kQ n hi n:Nat):Int)):=by
 have k1:¬ ((1:Int)<0):=by decide
 unfold Builtin.Slice.sliceAdjust;simp only[k1,if_false];rw[<-v5 lo n 0 0 rfl a,<-v5 hi n n n rfl b];cases lo<;>cases hi<;>rfl
theorem FQ (a b:Nat):Builtin.Slice.slicePlaces (a:Int) (b:Int) 1=b-a:=by
 unfold Builtin.Slice.slicePlaces;have c:(1:Int)>0:=by exact Int.one_pos
 simp only[c,if_true,Int.ediv_one];split<;>lia
section
variable {prog:Program}{w:World}{A:Around}{E:Value->Shared->Prop}{s:Shared}
theorem zC {v:Value}{k:Option Int}{Q:Option Int->Shared->Prop}(p:IsPart v k) (h:Q k s):aP (model prog w) A (Builtin.Slice.slicePartIndex v) Q E s:=by
 cases p with
 | none=>exact slicePart_none h
 | int=>exact slicePart_int h
theorem G4 {e:Addr}{c d:Value}{lo hi:Option Int}{n:Nat}{Q:Int×Int×Nat->Shared->Prop}(j:s.heap.IsSliceOf e c d .none) (pl:IsPart c lo) (k:IsPart d hi) (f:mO lo) (g:mO hi)
  (h:Q (((kQ n lo 0:Nat):Int),1,kQ n hi n-kQ n lo 0) s) :
  aP (model prog w) A (Builtin.Slice.sliceApplied (.ref e) (pure (n:Int))) Q E s:=by
 refine eT (id j) λos b i a=>?_;refine ad (ad (c_ b a (x:=c) rfl (ad (c_ b a (x:=d) rfl (ad (c_ b a (x:=.none) rfl (aJ ?_)))))));refine ad (slicePart_none ?_);rw[if_neg (by decide)];refine ad (zC pl (ad (zC k (ad (aJ ?_)))));show aP _ _ (match Builtin.Slice.sliceAdjust lo hi 1 (n:Int) with|(lo,hi)=>pure (lo,(1:Int),Builtin.Slice.slicePlaces lo hi 1)) _ _ s;rw[Fj lo hi n f g];show aP _ _ (pure (((kQ n lo 0:Nat):Int),(1:Int),Builtin.Slice.slicePlaces ((kQ n lo 0:Nat):Int) ((kQ n hi n:Nat):Int) 1)) _ _ s;rw[FQ];exact aJ h
theorem Dc (xs:Array Value) (a m:Nat):((bG m).filterMap λ(k:Nat)=>xs[((a:Int)+(k:Int)*1).toNat]?).toArray=((xs.toList.drop a).take m).toArray:=by
 have e:(λ(k:Nat)=>xs[((a:Int)+(k:Int)*1).toNat]?)=λk=>xs[a+k]?:=by
  funext k;have:((a:Int)+(k:Int)*1).toNat=a+k:=by exact z112
  rw[this]
 rw[e];have:=pick_run xs a m;rw[List.filterMap_map] at this;have b:((λx=>xs[x]?)∘λx=>a+x)=λk=>xs[a+k]?:=rfl;rw[b] at this;rw[this]
theorem G5 {t j:Addr}{vs:List Value}{o:Obj}{n:Nat}{q r:Value}{lo hi:Option Int}{Q:Value->Shared->Prop}(l:s.heap.get? t=some o) (k:o.cls=.type "tuple") (z:o.data=.seq vs.toArray n) (p:s.heap.IsSliceOf j q r .none) (pl:IsPart q lo) (D:IsPart r hi) (x:mO lo) (y:mO hi)
  (C:gm vs lo hi=vs->Q (.ref t) s)
  (h:Q (.ref s.heap.objs.size) { s with heap:=s.heap.push { cls:=.type "tuple",data:=.seq (gm vs lo hi).toArray } })
  (i:vs.length<=ag):aP (model prog w) A (getItem (.ref t) (.ref j)) Q E s:=by
 have d:s.TypeIs (.ref t) "tuple" := ⟨o,l,k⟩;have b:sizeOk (.seq (gm vs lo hi).toArray):=by show(gm vs lo hi).toArray.size<=ag;unfold gm;rw[aH,b9,cK];exact z113 i
 refine eT (id p) λos g f B=>?_;have e:s.TypeIs (.ref j) "slice" := ⟨os,g,f⟩;unfold getItem
 try with_reducible refine g7 ?_
 first|refine ad (aJ ?_)|skip
 refine ad (wpAny_sequenceKey d (by decide) ?_);refine ad (wpAny_callSpecial?_slot (name:=ae "__getitem__") d slot_tuple_getitem
  (eH slot_tuple_getitem d entry_tuple_getitem ?_ (args_tuple_getitem _ _)))
 show aP _ _ (Builtin.Tuple.tupleItemsOf (.ref t) >>= _) _ _ s;refine ad (tupleItemsOf_ ⟨o,l,k,n,z⟩ ?_);refine ad (wpAny_typeOf e ?_);rw[if_pos (by decide)];have F:((vs.toArray.size:Nat):Int)=(vs.length:Int):=by rw[aH]
 refine ad (G4 (n:=vs.toArray.size) p pl D x y ?_);rw[aH];show aP _ _ (if (((kQ vs.length lo 0:Nat):Int) == 0&&(1:Int) == 1&&(kQ vs.length hi vs.length-kQ vs.length lo 0) == vs.length)=true then _ else _) _ _ s
 by_cases a:(((kQ vs.length lo 0:Nat):Int) == 0&&(1:Int) == 1&&(kQ vs.length hi vs.length-kQ vs.length lo 0) == vs.length)=true
 ·rw[if_pos a];refine ad (m:=Builtin.Tuple.tupleIsExact _) (ad (wpAny_typeOf d (aJ ?_)));rw[if_pos (by decide)];refine ad (fQ ?_);refine aJ ⟨_,rfl,aJ (C ?_)⟩;simp only[aS,beq_iff_eq] at a;refine c7 (a) λc v=>?_;clear a;refine c7 (c) λu _=>?_;clear c;unfold gm;rw[v,show kQ vs.length lo 0=0 by exact Int.ofNat_eq_zero.mp u];simp
 ·rw[if_neg a,Dc];exact ad (m:=Builtin.Tuple.tupleExact _) (iN (aJ ⟨_,rfl,aJ h⟩) b)
end
theorem FL {o:Expr}{lo hi:Option Expr}{p pos:Pos}{Q:PQ}
  (h:EvOK P C d o loc H (λx R=>qf P C d lo loc R (λa S=>qf P C d hi loc S (λb y=>∃l,x=.tup l/\l.length<=ag/\mO a/\mO b/\Q (.tup (gm l a b)) y) X) X) X) :
  EvOK P C d (.Subscript o (.Slice lo hi none p) pos) loc H Q X:=λA E env ι s w e a=>by
 refine y_ (T := "tuple") slot_tuple_getitem.lookup (gv (h A E env ι s w e a) (λu s1 ι1 R x p1 r1 g=>?_));refine wpAny_Slice (aD (sW g A E env ι1 s1 (w.step p1) (e.step w.hr p1) (a.step p1)) (λv s2 g=>?_) λ_ _ x=>x);refine kM (g) λι2 S L p2 Z g=>?_;have c:=p1.trans p2;refine aD (sW g A E env ι2 s2 (w.step c) (e.step w.hr c) (a.step c)) (λV f g=>?_) λ_ _ x=>x;refine kM (g) λr y M p3 K m=>?_;clear g;refine pT (m) λl D I oa ob q=>?_;clear m;subst D;refine aJ ?_;have j:=c.trans p3;have rx:=p3.vr p2.hr (p2.vr p1.hr r1);have G:∀b o,f.heap.get? b=some o->(f.heap.push { cls:=.type "slice",data:=.fields #[v,V,.none] }).get? b=some o:=λb o e=>ay _ e;have p4:Post P.B r f r y { f with heap:=f.heap.push { cls:=.type "slice",data:=.fields #[v,V,.none] } }:=Post.keep (t:=f.toks) p3.hr G;have O:=rx;refine eX (rx) λta vs F k N=>?_;clear rx;subst F;refine mJ (k) λn dc sl e=>?_;clear k;have U:=G _ _ e;refine⟨⟨_,U,rfl⟩,G5 U rfl rfl (Heap.IsSliceOf.new ..) Z K oa ob (λY=>?_) ?_ (by rw[N.length];exact I)⟩
 ·have J:gm l L M=l:=by
   have i:vs.length=l.length:=N.length;have W:(gm l L M).length=l.length:=by have z:=congrArg eg Y;unfold gm at z ⊢;simp only[b9,cK,i] at z ⊢;exact z
   exact(List.take_sublist _ _ |>.trans (iz _ _)).eq_of_length W
  rw[J] at q;exact((Gives.now _ p4.hr (p4.vr p3.hr O) q).before p4).before j
 ·have:=vD (P:=P) (Q:=Q) p4.hr (VRs.slice (lo:=L) (hi:=M) (N.kept G (af _))) q;exact(this.before p4).before j
end Mine
namespace Mine
open PySem PyProof.Rows PySem.W
variable {P:PEnv}{C:Ctx}{d:Nat}{loc:Loc}{H:Hp}{X:XP}
theorem VRs.toInts {B h:Heap}{ι:List Addr}:∀{c:List Int}{vs:List Value},VRs B h ι (c.map .int) vs->IntsAre vs c
 | [],_,r=>by cases (show _=[] from r);exact .nil
 | n::c,_,r=>by refine eX (r) λv e b hv d=>?_;clear r;subst b;refine cG (hv) λt a=>?_;clear hv;subst a;exact .cons n t (VRs.toInts d)
theorem VRs.ofInts {B h:Heap}{ι:List Addr}:∀{vs:List Value}{a:List Int},IntsAre vs a->VRs B h ι (a.map .int) vs
 | _,_,.nil=>rfl
 | _,_,.cons n t r=>⟨_,_,rfl,VR.mkInt _ _,VRs.ofInts r⟩
theorem GD {x:AV}{g:List Int}{Q:PQ}(p:seqL H x=some (g.map .int)) (f:g.length<5000)
  (q:∀ms:List Int,ms.Perm g->ms.Pairwise (·<=·)->Q (.ref H.length) (H++[.list (ms.map .int)])):OpOK P d (λvs=>call (.builtin "sorted") vs) [x] H Q:=fn1 λA E ι s u w r=>by
 refine eX (oD w.hr r p) λa vs c v i=>?_;subst c;refine Gn v i.toInts (by rw[i.length,ya];exact z114 f) λout ms h j k=>?_;have m:∀b o,s.heap.get? b=some o->(sortedAll s.heap vs out).get? b=some o:=λb o e=>sortedAll_old e;refine cG (sortedAll_at s.heap vs out) λe l=>?_;have n:s.heap.get? (s.heap.objs.size+1)=none:=by
  cases e:s.heap.get? (s.heap.objs.size+1) with
  | none=>rfl
  | some o=>have h:s.heap.objs.size+1<s.heap.objs.size:=ci e;lia
 refine⟨_,_,.ref H.length,Post.alloc (t:=s.toks) w.hr m n (o:=.list (ms.map .int)) ⟨out.toList,⟨e,by simpa using l⟩,VRs.ofInts h⟩,?_,q ms j k⟩;exact⟨_,rfl,by rw[<-w.hr.len];simp⟩
theorem yt {prog:Program}{w:World}:∀(as:List Value) (a:List (Int×Value)),as.length=a.length->(∀(j:Nat) (v:Value),as[j]?=some v->∃k x,a[j]?=some (k,x)/\(intKind prog w).is k v=true)->IntsAre as (a.map (·.1)):=by
 intro as
 induction as with
 | nil=>intro a b _;have:a=[]:=bI.mp b.symm;subst this;exact .nil
 | cons v as ih =>
  intro a b d;cases a with
  | nil=>simp at b
  | cons p a =>
   refine kB (d 0 v rfl) λk x e f=>?_;simp only[iG,dR] at e;refine cG (jP f) λt c=>?_;subst c;subst e;exact .cons k t (ih a (by simpa using b) λj v hv=>d (j+1) v (by simpa using hv))
theorem GC {i:Nat}{l:List (Int×AV)}{Q:PQ}(hi:H[i]?=some (.dict l)) (g:l.length<5000)
  (q:∀ms:List Int,ms.Perm (l.map (·.1))->ms.Pairwise (·<=·)->Q (.ref H.length) (H++[.list (ms.map .int)])):OpOK P d (λvs=>call (.builtin "sorted") vs) [.ref i] H Q:=fn1 λA E ι s u w r=>by
 refine aK (r) λa p D=>?_;clear r;subst p;refine eT (w.hr.dict D hi) λkvs J n N=>?_;have lo:(a == sysModules)=false:=by refine eT (w.hr.objs i _ hi) λR C x _=>?_;rw[D] at C;cases C;exact x
 refine cG (J.dictAt) λep y=>?_;have c:kvs.length=l.length:=by have:=congrArg eg n;simpa using this
 refine lz kind_sorted plain_sorted entry_sorted (args_sorted1 _) ?_;unfold Builtin.«sorted»;refine ad (m:=checkCount "sorted" 1 1 _) (aJ ?_);refine ad (kdu_collect (A:=A.in1) (kdl_dict (knd:=intKind P.prog P.w) (kvs:=kvs) (ep:=ep) lo) w.room.handled y (by unfold ag;exact z115 g c) λh' O acc F f=>?_);have B:acc.toList.length=l.length:=by rw[a_];exact f.1.trans c
 have K:IntsAre acc.toList (l.map (·.1)):=by rw[<-n];exact yt _ _ (by rw[B,c]) λj v e=>f.2 j v (by rw[<-cD];exact e)
 refine ad (ng ?_ (by rw[B];unfold ag;exact z116 g));have k:(h'.push { cls:=.type "list",data:=.seq acc.toList.toArray }).get? h'.objs.size=some (seqObj "list" acc.toList.toArray 0):=ba _ rfl;refine ad (g7 (eH slot_list_sort ⟨_,k,rfl⟩ entry_list_sort (yG k K (by rw[B];exact z114 g) λout ms x G I=>⟨_,rfl,?_⟩) (args_list_sort _)));refine aJ ⟨_,rfl,?_⟩;have h:∀b o,s.heap.get? b=some o->b<h'.objs.size:=λb o e=>ci (F b o e);have z:∀b o,s.heap.get? b=some o->(sortedHeap (h'.push { cls:=.type "list",data:=.seq acc.toList.toArray }) h'.objs.size acc.toList out).get? b=some o:=λb o e=>by rw[sortedHeap_old (bM (h b o e)) (by rw[jc];exact gu (h b o e))];exact ay _ (F b o e)
 refine cG (sortedHeap_at (out:=out) k) λe L=>?_;have M:s.heap.get? h'.objs.size=none:=by
  cases e:s.heap.get? h'.objs.size with
  | none=>rfl
  | some o=>exact absurd (h _ _ e) (c9 _)
 refine⟨_,_,.ref H.length,Post.alloc (t:=O) w.hr z M (o:=.list (ms.map .int)) ⟨out.toList,⟨e,by simpa using L⟩,VRs.ofInts x⟩,?_,q ms G I⟩;exact⟨_,rfl,by rw[<-w.hr.len];simp⟩
theorem En {i:Nat}{l:List (Int×AV)}{Q:PQ}(hi:H[i]?=some (.dict l)) (C:l.length<=ag)
  (q:Q (.ref H.length) (H++[.list ((l.map (·.1)).map .int)])):OpOK P d (λvs=>call (.type "list") vs) [.ref i] H Q:=fn1 λA E ι s u w r=>by
 refine aK (r) λa h p=>?_;clear r;subst h;refine eT (w.hr.dict p hi) λkvs y f D=>?_;have lo:(a == sysModules)=false:=by refine eT (w.hr.objs i _ hi) λG m x _=>?_;rw[p] at m;cases m;exact x
 refine cG (y.dictAt) λep k=>?_;have g:kvs.length=l.length:=by have:=congrArg eg f;simpa using this
 refine kdl_call (kdl_dict (knd:=intKind P.prog P.w) (kvs:=kvs) (ep:=ep) lo) w.room.handled k (by rw[g];exact C) λh' F acc c B z b=>?_;have n:=yt (prog:=P.prog) (w:=P.w) acc.toList kvs (by rw[a_];exact b.1) λj v e=>b.2 j v (by rw[<-cD];exact e);rw[f] at n;refine⟨_,_,.ref H.length,Post.alloc (t:=F) w.hr B (oR _) (o:=.list ((l.map (·.1)).map .int)) ⟨acc.toList,⟨c,by simpa using z⟩,VRs.ofInts n⟩,?_,q⟩;exact⟨_,rfl,by rw[<-w.hr.len];simp⟩
end Mine
namespace Mine
open PySem
open AutoSeq1 (wpAny_loadPart')
section
variable {prog:Program}{w:World}{A:Around}{E:Value->Shared->Prop}{s:Shared}
theorem Gi {it t:Addr}{i:Nat}{items:Array Value}{x:Value}{Q:Value->Shared->Prop}(a:s.heap.IsTupleIter it t i) (g:s.heap.IsTuple t items) (k:items[i]?=some x)
  (h:∀h',h'.IsTupleIter it t (i+1)->fh it s.heap h'->Q x { s with heap:=h' }):aP (model prog w) A (Builtin.SmallTypes.nextOf (.ref it)) Q E s:=by
 refine eT (id a) λo d j b=>?_;refine eT (g) λl f _ c=>?_;clear g;refine cG (c) λn e=>?_;clear c;unfold Builtin.SmallTypes.nextOf;refine ad (wpAny_callSpecial?_slot (name:=ae "__next__") a.typeIs F.slot_tuple_iterator_next (eH F.slot_tuple_iterator_next a.typeIs F.entry_tuple_iterator_next ?_ (F.args_tuple_iterator_next_1 _)));show aP _ _ (field (.ref it) 0 >>= _) _ _ s;refine ad (c_ d b (x:=.ref t) rfl ?_);show aP _ _ (if (db t == fE)=true then _ else _) _ _ s;rw[if_neg (show ¬ ((db t == fE)=true) from hJ)];show aP _ _ (field (.ref it) 1 >>= _) _ _ s;refine ad (c_ d b (x:=.int i 0) rfl ?_);show aP _ _ (seqItems? (.ref t) >>= _) _ _ s;refine ad (wpAny_seqItems f e ?_);simp only[cx,k];refine ad (mu d b (by simp) (aJ ⟨x,rfl,aJ (h _ ?_ (nR ..))⟩));refine⟨_,i5 _ d (mS (hU b _)),(Obj.cls_mapFields ..).trans j,?_⟩;rw[hU b];simp[rawInt]
theorem G1 {it t:Addr}{i:Nat}{items:Array Value}{Q:Value->Shared->Prop}(j:A.handled=none) (b:s.heap.IsTupleIter it t i) (k:s.heap.IsTuple t items) (p:items[i]?=none)
  (l:∀h' e,iA it s.heap h'->(∃o,h'.get? e=some o/\o.cls=.type "StopIteration")->E (.ref e) { s with heap:=h' }):aP (model prog w) A (Builtin.SmallTypes.nextOf (.ref it)) Q E s:=by
 refine eT (id b) λo g q d=>?_;refine eT (k) λr h _ c=>?_;clear k;refine cG (c) λn f=>?_;clear c;unfold Builtin.SmallTypes.nextOf;refine ad (wpAny_callSpecial?_slot (name:=ae "__next__") b.typeIs F.slot_tuple_iterator_next (eH F.slot_tuple_iterator_next b.typeIs F.entry_tuple_iterator_next ?_ (F.args_tuple_iterator_next_1 _)));show aP _ _ (field (.ref it) 0 >>= _) _ _ s;refine ad (c_ g d (x:=.ref t) rfl ?_);show aP _ _ (if (db t == fE)=true then _ else _) _ _ s;rw[if_neg (show ¬ ((db t == fE)=true) from hJ)];show aP _ _ (field (.ref it) 1 >>= _) _ _ s;refine ad (c_ g d (x:=.int i 0) rfl ?_);show aP _ _ (seqItems? (.ref t) >>= _) _ _ s;refine ad (wpAny_seqItems h f ?_);simp only[cx,p];refine ad (fQ (ad (mu g d (by simp) ?_)));show aP _ _ (newExc (.type "StopIteration") [] >>= _) _ _ _;refine ad ?_;refine ad (iN ?_ (by size_fits));refine ad (m:=firstArgMember _ _) (wpAny_of_eq (a:=fE) (by first|rfl|(simp only[firstArgMember];rfl)) ?_);refine iN ?_ (by size_fits);refine ad (wpAny_handled ?_)
 first|rw[show A.in1.handled=none from j]|rw[j]
 refine ad (aJ (wpAny_throw ?_));exact l _ _ (((nR ..).extBut.push _).push _) ⟨_,ba _ rfl,rfl⟩
theorem Fz {e it:Addr}{x old:Value}{R:Heap->Prop}{Q:Option Value->Shared->Prop}(u:IsEnum s.heap e it i old) (c:e≠it)
  (W:∀h h',R h->(∀o,h.get? it=some o->h'.get? it=some o)->R h')
  (X:∀A' U (P:Value->Shared->Prop),(∀h₁,R h₁->fh it s.heap h₁->P x { s with heap:=h₁ })->aP (model prog w) A' (Builtin.SmallTypes.nextOf (.ref it)) P U s)
  (V:∀h',IsEnumOut h' e it ((i:Int)+1) x s.heap.objs.size->R h'->h'.get? s.heap.objs.size=some { cls:=.type "tuple",data:=.seq #[.int i s.toks,x] } ->
   (∀b o,b≠e->b≠it->s.heap.get? b=some o->h'.get? b=some o)->Q (some (.ref s.heap.objs.size)) { s with heap:=h',toks:=s.toks+1 }):aP (model prog w) A (pyNext (.ref e)) Q E s:=by
 have S:s.TypeIs (.ref e) "enumerate" := ⟨_,u,rfl⟩;unfold pyNext;refine ad (nh (wpAny_callSpecial?_slot (name:=ae "__next__") S F.slot_enumerate_next (eH F.slot_enumerate_next S F.entry_enumerate_next ?_ (F.args_enumerate_next_1 _))));obtain⟨j,g,d,a,os⟩:=s;have N:e<j.objs.size:=ci u;show aP _ _ (field (.ref e) 2 >>= _) _ _ _;refine ad (c_ u rfl (x:=.ref it) rfl ?_);refine ad (X _ _ _ λh₁ r1 y=>?_);have D:IsEnum h₁ e it i old:=(y.2 e c).trans u;show aP _ _ (field (.ref e) 3 >>= _) _ _ ⟨h₁,g,d,a,os⟩;refine ad (c_ D rfl (x:=rawInt i) rfl ?_);show aP _ _ (field (.ref e) 4 >>= _) _ _ ⟨h₁,g,d,a,os⟩;refine ad (c_ D rfl (x:=.none) rfl ?_);show aP _ _ (mkInt i >>= _) _ _ ⟨h₁,g,d,a,os⟩;refine ad (wpAny_mkInt ?_);show aP _ _ (setField (.ref e) 3 (rawInt ((i:Int)+1)) >>= _) _ _ ⟨h₁,g,d,a+1,os⟩;refine ad (gq D (by simp) λh₂ G k=>?_)
 replace k:fh e h₁ h₂:=k
 replace G:IsEnum h₂ e it ((i:Int)+1) old:=G
 show aP _ _ (setField (.ref e) 4 .none >>= _) _ _ ⟨h₂,g,d,a+1,os⟩;refine ad (gq G (by simp) λm H l=>?_)
 replace l:fh e h₂ m:=l
 replace H:IsEnum m e it ((i:Int)+1) old:=H
 show aP _ _ (newTuple [.int i a,x] >>= _) _ _ ⟨m,g,d,a+1,os⟩;refine ad (wpAny_newTuple ?_);have T:m.objs.size=j.objs.size:=l.1.trans (k.1.trans y.1);generalize v:m.push { cls:=.type "tuple",data:=.seq #[.int i a,x] }=f;have I:IsEnum f e it ((i:Int)+1) old:=v▸ay _ H;have t4:f.get? j.objs.size=some { cls:=.type "tuple",data:=.seq #[.int i a,x] }:=by rw[<-v,<-T];exact ba _ rfl
 have Z:∀b o,b≠e->b≠it->j.get? b=some o->f.get? b=some o:=λb o r n2 q=>by rw[<-v];exact ay _ (l.extBut b o r (k.extBut b o r (y.extBut b o n2 q)))
 have Y:∀o,h₁.get? it=some o->f.get? it=some o:=λo O=>by rw[<-v];exact ay _ (l.extBut it o (Ne.symm c) (k.extBut it o (Ne.symm c) O))
 show aP _ _ (Builtin.SmallTypes.ownedTupleIsFree (.ref e) >>= _) _ _ ⟨f,g,d,a+1,os⟩;rw[T];refine ad ?_;unfold Builtin.SmallTypes.ownedTupleIsFree;refine ad (c_ I rfl (x:=.none) rfl (aJ ?_));simp only[if_true];refine ad (fQ ?_);refine ad (c_ I rfl (x:=old) rfl ?_);refine ad (gq I (by simp) λt J z=>?_)
 replace z:fh e f t:=z
 replace J:IsEnum t e it ((i:Int)+1) x:=J
 show aP _ _ (Builtin.SmallTypes.ownedTupleHandOut (.ref e) (.ref j.objs.size) >>= _) _ _ ⟨t,g,d,a+1,os⟩;refine ad ?_;unfold Builtin.SmallTypes.ownedTupleHandOut;refine ad (gq J (by simp) λM K B=>?_)
 replace B:fh e t M:=B
 replace K:IsEnumOut M e it ((i:Int)+1) x j.objs.size:=K
 refine gq K (by simp) λp L C=>?_
 replace C:fh e M p:=C
 replace L:IsEnumOut p e it ((i:Int)+1) x j.objs.size:=L
 have up:∀b o,b≠e->f.get? b=some o->p.get? b=some o:=λb o n q=>C.extBut b o n (B.extBut b o n (z.extBut b o n q));refine ad (wpAny_letGo (aJ ⟨_,rfl,?_⟩));refine aJ (V p L ?_ ?_ ?_)
 ·exact W h₁ p r1 λo O=>up it o (Ne.symm c) (Y o O)
 ·exact up _ _ (iP N) t4
 ·exact λb o r n2 q=>up b o r (Z b o r n2 q)
theorem EJ {e it:Addr}{i:Int}{old:Value}{Q:Option Value->Shared->Prop}(j:A.handled=none) (d:IsEnum s.heap e it i old)
  (l:∀(A':Around) (a:Value->Shared->Prop) (f:Value->Shared->Prop),A'.handled=none->(∀h' x,iA it s.heap h'->(∃o,h'.get? x=some o/\o.cls=.type "StopIteration")->a (.ref x) { s with heap:=h' })->aP (model prog w) A' (Builtin.SmallTypes.nextOf (.ref it)) f a s)
  (g:∀h',iA it s.heap h'->Q none { s with heap:=h' }):aP (model prog w) A (pyNext (.ref e)) Q E s:=by
 have c:s.TypeIs (.ref e) "enumerate" := ⟨_,d,rfl⟩;unfold pyNext;refine ad (nh (wpAny_callSpecial?_slot (name:=ae "__next__") c F.slot_enumerate_next (eH F.slot_enumerate_next c F.entry_enumerate_next ?_ (F.args_enumerate_next_1 _))));show aP _ _ (field (.ref e) 2 >>= _) _ _ _;refine ad (c_ d rfl (x:=.ref it) rfl ?_);refine ad (l _ _ _ j λh' x k ⟨o,m,h⟩=>?_);refine ad (wpAny_isInstance (T := "StopIteration") (b:=true) ⟨o,m,h⟩ isSubtype_stop ?_);exact aJ (g _ k)
theorem DA {prog:Program}{w:World}{cls:Value}{Q:Bool->Shared->Prop}(h:∀b,Q b s):aP (model prog w) A (Builtin.SmallTypes.calledThroughType cls) Q E s:=by unfold Builtin.SmallTypes.calledThroughType;exact ad (wpAny_stack_any λst=>aJ (h _))
set_option maxHeartbeats 1000000 in
theorem Fy (t:Addr) (items:Array Value) (n:Nat) (c:Option Addr) (j:Array (Option Value)) :
  Meets (Builtin.«enumerate.__new__» ⟨[.type "enumerate",.ref t],[]⟩) (λ_ R s=>s.heap.get? t=some { cls:=.type "tuple",dict:=c,data:=.seq items n,slots:=j } /\
   R (.ok (.ret (.ref (s.heap.push { cls:=.type "tuple_iterator",data:=.fields #[.ref t,.int 0 0] }).objs.size)))
    { s with heap:=(s.heap.push { cls:=.type "tuple_iterator",data:=.fields #[.ref t,.int 0 0] }).push { cls:=.type "enumerate",data:=.fields #[.none,.bool false,.ref s.heap.objs.size,rawInt 0,.none,.none] } }) :=
 .of_wp λprog w A R s h=>by
  obtain⟨i,g,d,k,os⟩:=s;obtain⟨a,h⟩:=h;have f:=sub_enumerate;have e:Heap.IsTuple (Shared.heap ⟨i,g,d,k,os⟩) t items:=⟨_,a,rfl,n,rfl⟩
  wp_walk using wpAny_loadPart' a,DA
  intro b;cases b
  ·wp_walk using wpAny_loadPart' a,kG e
   exact⟨_,rfl,h⟩
  ·wp_walk using wpAny_loadPart' a,kG e
   exact⟨_,rfl,h⟩
end
variable {P:PEnv}{d:Nat}{H:Hp}
theorem DF {t:Expr}(h:nW t=true):∃es k p,t=.Tuple es k p:=by cases t<;>first|exact⟨_,_,_,rfl⟩|exact absurd h hJ
noncomputable def oA (l:List AV):List AV:=l.mapIdx λi x=>.tup [.int i,x]
theorem yO (l:List AV) (k:Nat):(oA l)[k]?=(l[k]?).map λx=>AV.tup [.int k,x]:=by unfold oA;rw[List.getElem?_mapIdx]
theorem yX (l:List AV):(oA l).length=l.length:=by unfold oA;rw[List.length_mapIdx]
structure Nxt (P:PEnv) (T:Addr) (items:List AV) (Cnd:Hp->Prop) (At:Nat->Obj->Prop) (Pre:List Addr->Heap->Prop):Prop where
 dat:∀k o,At k o->(∀vs n,o.data≠.seq vs n)/\∀es n,o.data≠.dict es n
 pre:∀ι ι' S h h',Pre ι h->Kept S h h'->kD S h->ι<+:ι'->Pre ι' h'
 next:∀ι H s k x,HR P.B ι H s.heap->Cnd H->Pre ι s.heap->(∃o,s.heap.get? T=some o/\At k o)->items[k]?=some x->∃u,VR P.B s.heap ι x u /\
  ∀A E (Q:Value->Shared->Prop),(∀h₁,(∃o,h₁.get? T=some o/\At (k+1) o)->fh T s.heap h₁->Q u { s with heap:=h₁ })->aP (model P.prog P.w) A (Builtin.SmallTypes.nextOf (.ref T)) Q E s
 stop:∀ι H s,HR P.B ι H s.heap->Cnd H->Pre ι s.heap->(∃o,s.heap.get? T=some o/\At items.length o)->∀A (E:Value->Shared->Prop) (Q:Value->Shared->Prop),A.handled=none ->
  (∀h' x,iA T s.heap h'->(∃o,h'.get? x=some o/\o.cls=.type "StopIteration")->E (.ref x) { s with heap:=h' })->aP (model P.prog P.w) A (Builtin.SmallTypes.nextOf (.ref T)) Q E s
theorem xQ {a b:Addr}{Z:Addr->Prop}(z:Z a) (y:Z b):∀c∈[a,b],Z c:=λc d=>(yg d).elim (λe=>e▸z) λm=>yb m▸y
theorem EK {I T:Addr}{items:List AV}{Cnd:Hp->Prop}{At:Nat->Obj->Prop}{Pre:List Addr->Heap->Prop}(n:Nxt P T items Cnd At Pre) (ne:I≠T) :
  Itr P true I [I,T] (oA items) Cnd (λk ι h=>Pre ι h/\(∃old,IsEnum h I T k old)/\∃o,h.get? T=some o/\At k o) (λk v ι h=>Pre ι h/\(∃x A,v=.ref A/\IsEnumOut h I T ((k:Int)+1) x A)/\∃o,h.get? T=some o/\At (k+1) o):=by
 have s:∀{h:Heap}{k:Nat}{oI:Obj},h.get? I=some oI->(∀vs n,oI.data≠.seq vs n)->(∃o,h.get? T=some o/\At k o)->∀a∈[I,T],∃o,h.get? a=some o/\∀vs n,o.data≠.seq vs n:=λe d q =>
  xQ (Z:=λa=>∃o,_/\_) ⟨_,e,d⟩ (aK q λo e z=>⟨o,e,(n.dat _ _ z).1⟩)
 have c:∀{vs:Array Value},(∀Y m,Data.fields vs≠.seq Y m)/\∀es m,Data.fields vs≠.dict es m:=⟨(λ_ _ z=>nomatch z),λ_ _ z=>nomatch z⟩;have ex:∀{h₁ h₂:Heap},(∀b o,b≠I->b≠T->h₁.get? b=some o->h₂.get? b=some o)->∀b o,b∉[I,T]->h₁.get? b=some o->h₂.get? b=some o:=λx b o j l=>x b o (λz=>j (z▸aR ..)) (λz=>j (z▸yi _ (yn rfl))) l;refine⟨λk ι ι' S h₁ h₂ q f U V H=>⟨n.pre _ _ _ _ _ q.1 f U V,q.2.1.elim λold e=>⟨old,f.exact e (H _ (aR ..)) c.2⟩,aK q.2.2 λo e z=>⟨o,f.exact e (H _ (yi _ (yn rfl))) (n.dat _ _ z).2,z⟩⟩,
  λk ι h₁ q=>q.2.1.elim λold e=>s e c.1 q.2.2,λk v ι h₁ q=>kB q.2.1 λx A _ e=>s e c.1 q.2.2,?_,?_,?_,λA E ι1 s1 k Q q g=>q.2.1.elim λold e=>wpAny_pyIter_enum e g⟩
 ·intro A E ι1 t s1 k x Q G i D q J g;refine q.2.1.elim λold e=>?_;rw[yO] at J;refine aK (yf J) λy N B=>aK (n.next ι1 t s1 k y i D q.1 q.2.2 N) λu W nx=>?_;subst B;refine Fz (R:=λh'=>∃o,h'.get? T=some o/\At (k+1) o) e ne (λh h' z O=>aK z λo w a=>⟨o,O o w,a⟩) nx λh' L F X f=>?_;have f:=Kept.of_keeps (ex f);have r:=ntw (s e c.1 q.2.2);refine g _ h' (s1.toks+1) ?_ ⟨n.pre _ _ _ _ _ q.1 f r (af _),⟨u,_,rfl,L⟩,F⟩ (ex (by assumption));exact⟨_,[.int k s1.toks,u],rfl,⟨0,_,_,X⟩,VRs.cons (VR.mkInt _ _) (VRs.cons (VR.mono f r (af _) _ _ W) rfl)⟩
 ·intro tgt A E ι1 s1 k v Q M q g;refine kB q.2.1 λx A' hv e=>mJ (DF (M rfl)) λes tk pos C=>?_;subst C;subst hv;refine wpAny_letOwnedTupleGo_enum e λh' w K=>?_;have p:=ex (h₁:=s1.heap) (h₂:=h') λb o j _ l=>K.extBut b o j l;refine g h' ⟨n.pre _ _ _ _ _ q.1 (Kept.of_keeps p) (ntw (s e c.1 q.2.2)) (af _),⟨x,?_⟩,aK q.2.2 λo e a=>⟨o,K.extBut T o (Ne.symm ne) e,a⟩⟩ p;rw[fX];exact w
 ·intro A E ι1 t s1 Q G i D q g;rw[yX] at q;exact q.2.1.elim λold e=>EJ G e (n.stop ι1 t s1 i D q.1 q.2.2) λh' x=>g h' s1.toks (ex λb o _ j l=>x b o j l)
theorem EL {items:List AV}{Cnd:Hp->Prop}{At:Nat->Obj->Prop}{Pre:List Addr->Heap->Prop}{o:Obj}{h₀:Heap}(d:h₀=(s.heap.push o).push { cls:=.type "enumerate",data:=.fields #[.none,.bool false,.ref s.heap.objs.size,rawInt 0,.none,.none] })
  (n:Nxt P s.heap.objs.size items Cnd At Pre) (a:At 0 o) (g:o.isFreed=false) (f:Pre ι s.heap) :
  (∃o,h₀.get? (s.heap.objs.size+1)=some o/\o.cls=.type "enumerate")/\rT P true A ι (oA items) Cnd (.ref (s.heap.objs.size+1)) s { s with heap:=h₀ }:=by
 have i:(s.heap.push o).objs.size=s.heap.objs.size+1:=jc ..;have c:IsEnum h₀ (s.heap.objs.size+1) s.heap.objs.size 0 .none:=by rw[d,<-i];exact ba _ rfl
 have k0:∀b o,s.heap.get? b=some o->h₀.get? b=some o:=λb o e=>by rw[d];exact ay _ (ay _ e)
 have hi:h₀.get? s.heap.objs.size=some o:=by rw[d];exact ay _ (ba _ g)
 refine⟨⟨_,c,rfl⟩,λj Q h=>wpAny_pyIter_enum c ?_⟩;refine h _ _ _ _ _ s.toks (EK n (Nat.succ_ne_self _)) ⟨n.pre _ _ _ _ _ f (oH k0) n_ (af _),⟨_,c⟩,o,hi,a⟩ (xQ (Z:=λb=>s.heap.get? b=none) ?_ (oR _)) k0;cases z:s.heap.get? (s.heap.objs.size+1) with
 | none=>rfl
 | some o=>exact absurd (ci z) (hV.mpr (jm _))
theorem Ex {l:List AV}{K:List AV->(Hp->Prop)->Hp->Prop}(h:K (oA l) (λ_=>True) H):p8 P true d (λvs=>call (.type "enumerate") vs) [.tup l] H K:=λA E ι s vs w rs=>by
 refine aK (vrs1 rs) λu e r=>?_;subst e;clear rs;refine eX r λa vs f t O=>mJ t λn c R v=>?_;clear r;subst f;refine callType_new F.called_enumerate (by decide) (F.typeCall_enumerate_1 _) (F.newCall_enumerate_1 _) (λg=>F.args_object_init_2 g _) F.entry_enumerate_new (Fy a vs.toArray n c R) ⟨v,?_⟩;have j:=EL (P:=P) (A:=A) (ι:=ι) (s:=s) (o:={ cls:=.type "tuple_iterator",data:=.fields #[.ref a,.int 0 0] }) rfl (items:=l) (Cnd:=λ_=>True) (At:=λk o=>o.cls=.type "tuple_iterator" /\ o.data=.fields #[.ref a,.int k 0]) (Pre:=λι h=>PTup h a vs.toArray/\VRs P.B h ι l vs)
  ⟨λk o z=>pS z.2,λι ι' S h h' q m p M=>⟨u3 m p q.1,VRs.mono m p M _ _ q.2⟩,λι H s k x I C b i L=>aK (b.2.get L) λu J N=>⟨u,N,λA E Q G=>Gi i b.1.isTup (by simpa using J) G⟩,
   λι H s I C b i A E Q D y=>G1 D i b.1.isTup (sm b.2.length) y⟩ ⟨rfl,rfl⟩ rfl ⟨t,O⟩
 show _/\_;rw[jc];exact⟨j.1,ι,H,oA l,λ_=>True,s,Post.id w.hr,j.2,h⟩
end Mine
namespace Mine
open PySem
variable {P:PEnv}{C:Ctx}{d:Nat}{loc:Loc}{H:Hp}{X:XP}
end Mine
namespace Mine
open PySem
inductive Bi where|len|all|sorted|list|tuple|int|min|max
inductive Mt where|append|pop|extend
inductive IK where|plain|range|revd|enum|keys
abbrev KI:=List AV->(Hp->Prop)->Hp->Prop
abbrev PF:=MFlow->Loc->Hp->Prop
abbrev PL:=List AV->Hp->Prop
def asT (v:AV) (n:Nat) (K:List AV->Prop):Prop:=match v with|.tup l=>l.length=n/\K l|_=>False
def as1 (vs:List AV) (K:AV->Prop):Prop:=match vs with|[x]=>K x|_=>False
def kE (o:Option (List AV)) (K:List AV->Prop):Prop:=match o with|some l=>K l|none=>False
theorem asT.ex {n:Nat}{K:List AV->Prop}(h:asT v n K):∃l,v=.tup l/\l.length=n/\K l:=by cases v<;>first|exact h.elim|exact⟨_,rfl,h⟩
theorem as1.ex {vs:List AV}{K:AV->Prop}(h:as1 vs K):∃x,vs=[x]/\K x:=by
 match vs,h with
 | [x],h=>exact⟨x,rfl,h⟩
theorem kE.ex {o:Option (List AV)}{K:List AV->Prop}(h:kE o K):∃l,o=some l/\K l:=by
 match o,h with
 | some l,h=>exact⟨l,rfl,h⟩
noncomputable def anyL (H:Hp):AV->Option (List AV)
 | .tup l=>some l
 | x=>seqL H x
noncomputable def lstL (H:Hp):AV->Option (List AV)
 | .ref i=>match H[i]? with
  | some (.list l)=>some l
  | some (.dict l)=>some ((l.map (·.1)).map .int)
  | _=>none
 | x=>anyL H x
noncomputable def tupL:AV->Option (List AV)|.tup l=>some l|_=>none
def tL (x:AV) (H:Hp) (Q:PQ):Prop :=
 match x with
 | .tup l=>l.length<2^62/\Q (.int l.length) H
 | .fro l=>l.length<2^62/\Q (.int l.length) H
 | .ref i=>match H[i]? with
  | some (.list l)=>l.length<2^62/\Q (.int l.length) H
  | some (.dict l)=>l.length<2^62/\Q (.int l.length) H
  | _=>False
 | _=>False
def AA (x:AV) (H:Hp) (Q:PQ):Prop:=∃ns:List Int,(seqL H x=some (ns.map .int)\/∃i l,x=.ref i/\H[i]?=some (.dict l)/\ns=l.map (·.1))/\ns.length<5000/\∀ms:List Int,ms.Perm ns->ms.Pairwise (·<=·)->Q (.ref H.length) (H++[.list (ms.map .int)])
def wpMm (vs:List AV) (K:Int->Int->Prop):Prop:=match vs with|[.int a,.int b]=>K a b|_=>False
def wpBi (f:Bi) (vs:List AV) (H:Hp) (Q:PQ):Prop :=
 match f with
 | .len=>as1 vs λx=>tL x H Q
 | .all=>as1 vs λx=>∃bs:List Bool,seqL H x=some (bs.map .bool)/\Q (.bool (bs.all λb=>b)) H
 | .list=>as1 vs λx=>kE (lstL H x) λl=>l.length<=ag/\Q (.ref H.length) (H++[.list l])
 | .tuple=>as1 vs λx=>kE (seqL H x) λl=>l.length<=ag/\Q (.tup l) H
 | .int=>as1 vs λx=>asB x λb=>Q (.int (if b then 1 else 0)) H
 | .min=>wpMm vs λa b=>Q (.int (if b<a then b else a)) H
 | .max=>wpMm vs λa b=>Q (.int (if b>a then b else a)) H
 | .sorted=>as1 vs λx=>AA x H Q
def isL (H:Hp) (x:AV):Prop:=∃i l,x=.ref i/\H[i]?=some (.list l)
noncomputable def oZ (H:Hp) (i:Nat):Option (List AV):=match H[i]? with|some (.list l)=>some l|_=>none
theorem zm (h:oZ H i=some l):H[i]?=some (.list l):=by
 unfold oZ at h;split at h
 ·cases h;assumption
 ·cases h
theorem yu (h:H[i]?=some (.list l)):oZ H i=some l:=by unfold oZ;rw[h]
def onL (o:AV) (H:Hp) (K:Nat->List AV->Prop):Prop:=match o with|.ref i=>kE (oZ H i) (K i)|_=>False
theorem onL.ex {o:AV}{K:Nat->List AV->Prop}(h:onL o H K):∃i l,o=.ref i/\H[i]?=some (.list l)/\K i l:=by
 cases o with
 | ref i=>obtain⟨l,a,b⟩:=kE.ex h;exact⟨i,l,rfl,zm a,b⟩
 | _=>exact h.elim
theorem q_ {K:Nat->List AV->Prop}(h:H[i]?=some (.list l)):onL (.ref i) H K=K i l:=by show kE (oZ H i) _=_;rw[yu h];rfl
def wpMt (m:Mt) (o:AV) (vs:List AV) (H:Hp) (Q:PQ):Prop:=onL o H λi l =>
 match m with
 | .append=>as1 vs λx=>l.length<=ag/\Q .none (H.set i (.list (l++[x])))
 | .pop=>vs=[]/\l.length<=ag/\∃l' x,l=l'++[x]/\Q x (H.set i (.list l'))
 | .extend=>as1 vs λy=>onL y H λ_ m=>l.length+m.length<=1000000/\Q .none (H.set i (.list (l++m)))
def xW (x:AV) (H:Hp) (K:KI):Prop :=
 match x with
 | .ref i=>kE (oZ H i) λl=>K l (λH'=>H'[i]?=some (.list l)) H
 | .fro l=>K l (λ_=>True) H
 | .tup l=>K l (λ_=>True) H
 | _=>False
def DV (vs:List AV) (H:Hp) (K:KI):Prop :=
 match vs with
 | [.int n] => -(2^62)<=n/\n<2^62/\K ((bG n.toNat).map λ(k:Nat)=>AV.int k) (λ_=>True) H
 | [.int a,.int b] => -(2^62)<=a/\a<2^62 /\ -(2^62)<=b/\b<2^62/\K ((bG (b-a).toNat).map λ(k:Nat)=>AV.int (a+k)) (λ_=>True) H
 | _=>False
def BW (x:AV) (H:Hp) (K:KI):Prop :=
 match x with
 | .tup l=>K (oA l) (λ_=>True) H
 | _=>False
def wpIt (k:IK) (vs:List AV) (H:Hp) (K:KI):Prop :=
 match k with
 | .plain=>as1 vs λx=>xW x H K
 | .range=>DV vs H K
 | .revd=>as1 vs λx=>onL x H λi l=>K l.reverse (λH'=>H'[i]?=some (.list l)) H
 | .enum=>as1 vs λx=>BW x H K
 | .keys=>as1 vs λx=>∃i l e,x=.ref i/\H[i]?=some (.dicE l e)/\K (l.map λp=>.int p.1) (λH'=>H'[i]?=some (.dicE l e)) H
noncomputable def oq (t:Bool) (n:Nat) (y:AV):Option (List AV) :=
 match t with
 | true=>match y with|.tup l=>if l.length=n then some l else none|_=>none
 | false=>if n=1 then some [y] else none
def pI (o k x:AV) (H:Hp) (K:Hp->Prop):Prop :=
 match o with
 | .ref i=>asI k λk=>match H[i]? with
  | some (.list l)=>l.length<2^62/\0<=k/\k<l.length/\K (H.set i (.list (l.set k.toNat x)))
  | some (.dict l)=>l.length<=ag/\K (H.set i (.dict (dset l k x)))
  | _=>False
 | _=>False
def idxL (l:List AV) (k:Int) (H:Hp) (Q:PQ):Prop:=l.length<2^62/\∃j z,place k l.length=some j/\l[j]?=some z/\Q z H
def jT (x y:AV) (H:Hp) (Q:PQ):Prop :=
 match x with
 | .ref i=>asI y λk=>match H[i]? with
  | some (.list l)=>idxL l k H Q
  | some (.dict l)=>∃z,dget l k=some z/\Q z H
  | some (.dicE l _)=>∃z,dget l k=some z/\Q z H
  | none=>False
 | .tup l=>asI y λk=>idxL l k H Q
 | .fro l=>asI y λk=>idxL l k H Q
 | _=>False
noncomputable def wK:List AV->Option (Option Int)
 | []=>some none
 | [.int k]=>some (some k)
 | _=>none
def oz (vs:List AV) (K:Option Int->Prop):Prop:=match vs with|[]=>K none|[.int k]=>0<=k/\K (some k)|_=>False
theorem oz.ex {vs:List AV}{K:Option Int->Prop}(h:oz vs K):∃k,wK vs=some k/\mO k/\K k:=by
 match vs,h with
 | [],h=>exact⟨_,rfl,by simp[mO],h⟩
 | [.int k],h=>exact⟨_,rfl,by simpa [mO] using h.1,h.2⟩
def ME:Type:=Fun->Loc->Hp->PQ->Prop
def wpE (Φ:Fun) (m:ME) (loc:Loc) (H:Hp) (Q:PQ):Prop:=m Φ loc H Q
def wpEs (Φ:Fun):List ME->Loc->Hp->PL->Prop
 | [],_,H,Q=>Q [] H
 | e::es,loc,H,Q=>wpE Φ e loc H λv H'=>wpEs Φ es loc H' λvs H''=>Q (v::vs) H''
def wpCs (Φ:Fun):List ME->Loc->Hp->(Bool->Hp->Prop)->Prop
 | [],_,H,K=>K true H
 | e::es,loc,H,K=>wpE Φ e loc H λv H'=>asB v λb=>if b then wpCs Φ es loc H' K else K false H'
noncomputable def tz (op:BOp) (x:AV) (Q:PQ):PQ:=λy H=>n7 op x y H Q
noncomputable def tw (Φ:Fun) (op:BOp) (b:ME) (loc:Loc) (Q:PQ):PQ:=λx H=>wpE Φ b loc H (tz op x Q)
noncomputable def qF (op:COp) (x:AV) (Q:PQ):PQ:=λy H=>kt op x y H Q
noncomputable def qE (Φ:Fun) (op:COp) (b:ME) (loc:Loc) (Q:PQ):PQ:=λx H=>wpE Φ b loc H (qF op x Q)
def kC4 (Φ:Fun) (o2:COp) (c:ME) (loc:Loc) (y:AV) (Q:PQ) (H:Hp):Bool->Prop:=λt=>if t then wpE Φ c loc H (qF o2 y Q) else Q (.bool false) H
noncomputable def kC3 (Φ:Fun) (o2:COp) (c:ME) (loc:Loc) (y:AV) (Q:PQ):PQ:=λv H=>asB v (kC4 Φ o2 c loc y Q H)
noncomputable def kC2 (Φ:Fun) (o1 o2:COp) (c:ME) (loc:Loc) (x:AV) (Q:PQ):PQ:=λy H=>kt o1 x y H (kC3 Φ o2 c loc y Q)
noncomputable def kC1 (Φ:Fun) (o1 o2:COp) (b c:ME) (loc:Loc) (Q:PQ):PQ:=λx H=>wpE Φ b loc H (kC2 Φ o1 o2 c loc x Q)
def zU (Q:PQ) (H:Hp):Bool->Prop:=λb=>Q (.bool !b) H
noncomputable def kNot (Q:PQ):PQ:=λv H=>asB v (zU Q H)
def zT (Q:PQ) (H:Hp):Int->Prop:=λb=>Q (.int (-b)) H
noncomputable def kNeg (Q:PQ):PQ:=λv H=>asI v (zT Q H)
def pY (Φ:Fun) (b:ME) (loc:Loc) (Q:PQ) (H:Hp):Bool->Prop:=λt=>if t then wpE Φ b loc H Q else Q (.bool false) H
noncomputable def kAnd (Φ:Fun) (b:ME) (loc:Loc) (Q:PQ):PQ:=λv H=>asB v (pY Φ b loc Q H)
def kOrB (Φ:Fun) (b:ME) (loc:Loc) (Q:PQ) (H:Hp):Bool->Prop:=λt=>if t then Q (.bool true) H else wpE Φ b loc H Q
noncomputable def kOr (Φ:Fun) (b:ME) (loc:Loc) (Q:PQ):PQ:=λv H=>asB v (kOrB Φ b loc Q H)
noncomputable def tA (Φ:Fun) (f:Str) (Q:PQ):PL:=λvs H=>Φ f vs H Q
noncomputable def kBi (f:Bi) (Q:PQ):PL:=λvs H=>wpBi f vs H Q
noncomputable def kIsi (t:Ty) (Q:PQ):PQ:=λv H=>Q (.bool (isi H v t)) H
noncomputable def tC (x:AV) (Q:PQ):PQ:=λy H=>jT x y H Q
noncomputable def tB (Φ:Fun) (b:ME) (loc:Loc) (Q:PQ):PQ:=λx H=>wpE Φ b loc H (tC x Q)
def kS6 (ka kb:Option Int) (Q:PQ) (H:Hp):List AV->Prop:=λl=>l.length<=ag/\Q (.ref H.length) (H++[.list (gm l ka kb)])
def kS5 (x:AV) (ka:Option Int) (Q:PQ) (H:Hp):Option Int->Prop:=λkb=>kE (seqL H x) (kS6 ka kb Q H)
noncomputable def kS4 (x:AV) (ka:Option Int) (Q:PQ):PL:=λvs H=>oz vs (kS5 x ka Q H)
def kS3 (Φ:Fun) (hi:List ME) (loc:Loc) (x:AV) (Q:PQ) (H:Hp):Option Int->Prop:=λka=>wpEs Φ hi loc H (kS4 x ka Q)
noncomputable def kS2 (Φ:Fun) (hi:List ME) (loc:Loc) (x:AV) (Q:PQ):PL:=λus H=>oz us (kS3 Φ hi loc x Q H)
noncomputable def kS1 (Φ:Fun) (lo hi:List ME) (loc:Loc) (Q:PQ):PQ:=λx H=>wpEs Φ lo loc H (kS2 Φ hi loc x Q)
def kT6 (ka kb:Option Int) (Q:PQ) (H:Hp):List AV->Prop:=λl=>l.length<=ag/\Q (.tup (gm l ka kb)) H
def kT5 (x:AV) (ka:Option Int) (Q:PQ) (H:Hp):Option Int->Prop:=λkb=>kE (tupL x) (kT6 ka kb Q H)
noncomputable def kT4 (x:AV) (ka:Option Int) (Q:PQ):PL:=λvs H=>oz vs (kT5 x ka Q H)
def kT3 (Φ:Fun) (hi:List ME) (loc:Loc) (x:AV) (Q:PQ) (H:Hp):Option Int->Prop:=λka=>wpEs Φ hi loc H (kT4 x ka Q)
noncomputable def kT2 (Φ:Fun) (hi:List ME) (loc:Loc) (x:AV) (Q:PQ):PL:=λus H=>oz us (kT3 Φ hi loc x Q H)
noncomputable def kT1 (Φ:Fun) (lo hi:List ME) (loc:Loc) (Q:PQ):PQ:=λx H=>wpEs Φ lo loc H (kT2 Φ hi loc x Q)
def zV (Q:PQ) (H:Hp):List AV->Prop:=λl=>l.length<=ag/\Q (.ref H.length) (H++[.list l.reverse])
noncomputable def kRev (Q:PQ):PQ:=λx H=>kE (seqL H x) (zV Q H)
noncomputable def kTup (Q:PQ):PL:=λvs H=>vs.length<=ag/\Q (.tup vs) H
noncomputable def kLst (Q:PQ):PL:=λvs H=>vs.length<=ag/\Q (.ref H.length) (H++[.list vs])
noncomputable def kD3 (n:Nat) (i:Int) (Q:PQ):PQ:=λy H=>H[n]?=some (.dict [])/\Q (.ref n) (H.set n (.dict [(i,y)]))
def kD2 (Φ:Fun) (v:ME) (loc:Loc) (n:Nat) (Q:PQ) (H:Hp):Int->Prop:=λi=>wpE Φ v loc H (kD3 n i Q)
noncomputable def kD1 (Φ:Fun) (v:ME) (loc:Loc) (n:Nat) (Q:PQ):PQ:=λx H=>asI x (kD2 Φ v loc n Q H)
noncomputable def kM2 (m:Mt) (x:AV) (Q:PQ):PL:=λvs H=>wpMt m x vs H Q
noncomputable def kM1 (Φ:Fun) (m:Mt) (as:List ME) (loc:Loc) (Q:PQ):PQ:=λx H=>isL H x/\wpEs Φ as loc H (kM2 m x Q)
noncomputable def kE2 (v:AV) (Q:PL):PL:=λvs H=>Q (v::vs) H
noncomputable def kE1 (Φ:Fun) (es:List ME) (loc:Loc) (Q:PL):PQ:=λv H=>wpEs Φ es loc H (kE2 v Q)
def kCsB (Φ:Fun) (es:List ME) (loc:Loc) (K:Bool->Hp->Prop) (H:Hp):Bool->Prop:=λb=>if b then wpCs Φ es loc H K else K false H
noncomputable def kCs (Φ:Fun) (es:List ME) (loc:Loc) (K:Bool->Hp->Prop):PQ:=λv H=>asB v (kCsB Φ es loc K H)
noncomputable def kIt (k:IK) (K:KI):PL:=λvs H=>wpIt k vs H K
def atL (o:Option (Option AV)) (Q:PQ) (H:Hp):Prop:=match o with|some (some v)=>Q v H|_=>False
theorem atL.ex {o:Option (Option AV)}{Q:PQ}(h:atL o Q H):∃v,o=some (some v)/\Q v H:=by
 match o,h with
 | some (some v),h=>exact⟨v,rfl,h⟩
noncomputable def p7 (Φ:Fun) (t:Bool) (n:Nat) (elt:ME) (cond:List ME) (loc:Loc) (Q:PQ):KI:=λitems Cnd H₁=>items.length<=ag/\∃J:Nat->List AV->Hp->Prop,J 0 [] H₁/\∀i l H',J i l H'->Cnd H' /\
   (∀y,items[i]?=some y->∃ws,oq t n y=some ws/\wpCs Φ cond (loc++ws.map some) H' λb H''=>if b then wpE Φ elt (loc++ws.map some) H'' λv H3=>J (i+1) (l++[v]) H3 else J (i+1) l H'') /\
   (i=items.length->Q (.ref H'.length) (H'++[.list l]))
namespace ME
noncomputable def cst (v:AV):ME:=λ_ _ H Q=>Q v H
noncomputable def loc (i:Nat):ME:=λ_ loc H Q=>atL loc[i]? Q H
noncomputable def n (i:Int):ME:=cst (.int i)
noncomputable def bin (op:BOp) (a b:ME):ME:=λΦ loc H Q=>wpE Φ a loc H (tw Φ op b loc Q)
noncomputable def cmp (op:COp) (a b:ME):ME:=λΦ loc H Q=>wpE Φ a loc H (qE Φ op b loc Q)
noncomputable def cmp2 (o1 o2:COp) (a b c:ME):ME:=λΦ loc H Q=>wpE Φ a loc H (kC1 Φ o1 o2 b c loc Q)
noncomputable def not (a:ME):ME:=λΦ loc H Q=>wpE Φ a loc H (kNot Q)
noncomputable def neg (a:ME):ME:=λΦ loc H Q=>wpE Φ a loc H (kNeg Q)
noncomputable def and2 (a b:ME):ME:=λΦ loc H Q=>wpE Φ a loc H (kAnd Φ b loc Q)
noncomputable def or2 (a b:ME):ME:=λΦ loc H Q=>wpE Φ a loc H (kOr Φ b loc Q)
noncomputable def call (f:Str) (as:List ME):ME:=λΦ loc H Q=>wpEs Φ as loc H (tA Φ f Q)
noncomputable def bi (f:Bi) (as:List ME):ME:=λΦ loc H Q=>wpEs Φ as loc H (kBi f Q)
noncomputable def isi (a:ME) (t:Ty):ME:=λΦ loc H Q=>wpE Φ a loc H (kIsi t Q)
noncomputable def idx (a b:ME):ME:=λΦ loc H Q=>wpE Φ a loc H (tB Φ b loc Q)
noncomputable def slc (a:ME) (lo hi:List ME):ME:=λΦ loc H Q=>wpE Φ a loc H (kS1 Φ lo hi loc Q)
noncomputable def slcT (a:ME) (lo hi:List ME):ME:=λΦ loc H Q=>wpE Φ a loc H (kT1 Φ lo hi loc Q)
noncomputable def rev (a:ME):ME:=λΦ loc H Q=>wpE Φ a loc H (kRev Q)
noncomputable def tup (es:List ME):ME:=λΦ loc H Q=>wpEs Φ es loc H (kTup Q)
noncomputable def lst (es:List ME):ME:=λΦ loc H Q=>wpEs Φ es loc H (kLst Q)
noncomputable def dic1 (k v:ME):ME:=λΦ loc H Q=>wpE Φ k loc (H++[.dict []]) (kD1 Φ v loc H.length Q)
noncomputable def dic0:ME:=λΦ loc H Q=>Q (.ref H.length) (H++[.dict []])
noncomputable def comp (t:Bool) (n:Nat) (elt:ME) (k:IK) (its cond:List ME):ME:=λΦ loc H Q=>wpEs Φ its loc H (kIt k (p7 Φ t n elt cond loc Q))
noncomputable def meth (m:Mt) (o:ME) (as:List ME):ME:=λΦ loc H Q=>wpE Φ o loc H (kM1 Φ m as loc Q)
end ME
def MS:Type:=Fun->Loc->Hp->PF->Prop
def wpS (Φ:Fun) (m:MS) (loc:Loc) (H:Hp) (Q:PF):Prop:=m Φ loc H Q
noncomputable def seqF (Q:PF) (K:Loc->Hp->Prop):PF:=λfl loc H=>match fl with|.next=>K loc H|.cont=>Q .cont loc H|.brk=>Q .brk loc H|.ret v=>Q (.ret v) loc H|.exc c=>Q (.exc c) loc H
def wpSs (Φ:Fun):List MS->Loc->Hp->PF->Prop
 | [],loc,H,Q=>Q .next loc H
 | s::ss,loc,H,Q=>wpS Φ s loc H (seqF Q λloc' H'=>wpSs Φ ss loc' H' Q)
noncomputable def o_ (Φ:Fun) (ss:List MS) (Q:PF):PF:=seqF Q λloc' H'=>wpSs Φ ss loc' H' Q
noncomputable def kAsg (i:Nat) (loc:Loc) (Q:PF):PQ:=λv H=>Q .next (loc.set i (some v)) H
def BQ (is:List Nat) (loc:Loc) (Q:PF) (H:Hp):List AV->Prop:=λws=>Q .next (nf (is.zip ws) loc) H
noncomputable def tq (is:List Nat) (loc:Loc) (Q:PF):PQ:=λv H=>asT v is.length (BQ is loc Q H)
def tG (loc:Loc) (Q:PF):Hp->Prop:=λH=>Q .next loc H
noncomputable def tF (x y:AV) (loc:Loc) (Q:PF):PQ:=λz H=>pI y z x H (tG loc Q)
noncomputable def tE (Φ:Fun) (k:ME) (x:AV) (loc:Loc) (Q:PF):PQ:=λy H=>wpE Φ k loc H (tF x y loc Q)
noncomputable def tD (Φ:Fun) (o k:ME) (loc:Loc) (Q:PF):PQ:=λx H=>wpE Φ o loc H (tE Φ k x loc Q)
def oj (Φ:Fun) (a b:List MS) (loc:Loc) (Q:PF) (H:Hp):Bool->Prop:=λc=>if c then wpSs Φ a loc H Q else wpSs Φ b loc H Q
noncomputable def kIte (Φ:Fun) (a b:List MS) (loc:Loc) (Q:PF):PQ:=λv H=>asB v (oj Φ a b loc Q H)
noncomputable def kRet (loc:Loc) (Q:PF):PQ:=λv H=>Q (.ret v) loc H
noncomputable def kExp (loc:Loc) (Q:PF):PQ:=λ_ H=>Q .next loc H
noncomputable def whlK (J:Nat->Loc->Hp->Prop) (n:Nat) (Q:PF):PF:=λfl l H=>match fl with
 | .next=>∃m,m<n/\J m l H
 | .cont=>∃m,m<n/\J m l H
 | .brk=>Q .next l H
 | .ret v=>Q (.ret v) l H
 | .exc _=>False
def rO (Φ:Fun) (b:List MS) (J:Nat->Loc->Hp->Prop) (n:Nat) (loc:Loc) (Q:PF) (H:Hp):Bool->Prop:=λc=>if c then wpSs Φ b loc H (whlK J n Q) else Q .next loc H
noncomputable def kWhl (Φ:Fun) (b:List MS) (J:Nat->Loc->Hp->Prop) (n:Nat) (loc:Loc) (Q:PF):PQ:=λv H=>asB v (rO Φ b J n loc Q H)
noncomputable def forK (J:Nat->Loc->Hp->Prop) (i:Nat) (Q:PF):PF:=λfl l H=>match fl with
 | .next=>J (i+1) l H
 | .cont=>J (i+1) l H
 | .brk=>Q .next l H
 | .ret v=>Q (.ret v) l H
 | .exc _=>False
noncomputable def forI (Φ:Fun) (t:Bool) (is:List Nat) (b:List MS) (loc:Loc) (Q:PF):KI:=λitems Cnd H₁=>∃J:Nat->Loc->Hp->Prop,J 0 loc H₁/\∀i loc H,J i loc H->Cnd H /\
   (∀y,items[i]?=some y->∃ws,oq t is.length y=some ws/\wpSs Φ b (nf (is.zip ws) loc) H (forK J i Q)) /\
   (i=items.length->Q .next loc H)
namespace MS
noncomputable def asg (i:Nat) (e:ME):MS:=λΦ loc H Q=>wpE Φ e loc H (kAsg i loc Q)
noncomputable def asgT (is:List Nat) (e:ME):MS:=λΦ loc H Q=>wpE Φ e loc H (tq is loc Q)
noncomputable def sto (o k e:ME):MS:=λΦ loc H Q=>wpE Φ e loc H (tD Φ o k loc Q)
noncomputable def ite (t:ME) (a b:List MS):MS:=λΦ loc H Q=>wpE Φ t loc H (kIte Φ a b loc Q)
noncomputable def whl (t:ME) (b:List MS):MS:=λΦ loc H Q=>∃(J:Nat->Loc->Hp->Prop) (n:Nat),J n loc H/\∀n loc H,J n loc H->wpE Φ t loc H (kWhl Φ b J n loc Q)
noncomputable def forr (t:Bool) (is:List Nat) (k:IK) (its:List ME) (b:List MS):MS:=λΦ loc H Q=>wpEs Φ its loc H (kIt k (forI Φ t is b loc Q))
noncomputable def ret (e:ME):MS:=λΦ loc H Q=>wpE Φ e loc H (kRet loc Q)
noncomputable def ret0:MS:=λ_ loc H Q=>Q (.ret .none) loc H
noncomputable def expr (e:ME):MS:=λΦ loc H Q=>wpE Φ e loc H (kExp loc Q)
end MS
structure MF where
 params:Nat
 vars:Nat
 body:List MS
def wpF (Φ:Fun) (f:MF) (args:List AV) (H:Hp) (Q:PQ):Prop :=
 args.length=f.params/\wpSs Φ f.body (args.map some++am (f.vars-f.params) none) H (i6 Q)
end Mine
namespace Mine
open PySem
noncomputable def qI (C:Ctx) (i:Nat) (x:Str):Bool :=
 decide (C.ro<=i)&&(C.vars[i]? == some (some x))&&(C.vars.zipIdx.all λp=>p.1 != some x||p.2 == i)&&(C.names.lookup x == some .local||C.names.lookup x == some .cell)
theorem Slot.of {C:Ctx}{i:Nat}{x:Str}(h:qI C i x=true):Slot C i x:=by simp only[qI,aS,decide_eq_true_eq,beq_iff_eq,aN,fS,bne_iff_ne,ne_eq] at h;refine c7 (h) λa e=>?_;clear h;obtain⟨⟨b,c⟩,d⟩:=a;refine⟨b,c,λj f=>?_,e⟩;have:=d (some x,j) (by rw[List.mk_mem_zipIdx_iff_getElem?];exact f);simpa using this
structure GT where
 fns:List Str
 csts:List (Str×AV)
noncomputable def Bi.nm:Bi->Str|.len => "len" | .all => "all" | .sorted => "sorted" | .list => "list" | .tuple => "tuple" | .int => "int" | .min => "min" | .max => "max"
noncomputable def Bi.val:Bi->Value|.len=>.builtin "len" | .all=>.builtin "all" | .sorted=>.builtin "sorted" | .list=>.type "list" | .tuple=>.type "tuple" | .int=>.type "int" | .min=>.builtin "min" | .max=>.builtin "max"
noncomputable def Ty.ps:Ty->Str|.int => "int" | .bool => "bool" | .str => "str" | .tuple => "tuple" | .list => "list"
noncomputable def Mt.nm:Mt->Str|.append => "append" | .pop => "pop" | .extend => "extend"
noncomputable def Mt.id:Mt->String|.append => "list.append" | .pop => "list.pop" | .extend => "list.extend"
inductive ITy where|range|revd|enum
noncomputable def ITy.ik:ITy->IK|.range=>.range|.revd=>.revd|.enum=>.enum
noncomputable def ITy.str:ITy->Str|.range => "range" | .revd => "reversed" | .enum => "enumerate"
noncomputable def ITy.nm:ITy->String|.range => "range" | .revd => "reversed" | .enum => "enumerate"
noncomputable def kS:List (Str×Str):=[("put", "Shelf.put"),("told", "Shelf.told"),("numbers", "Shelf.numbers"),("slip", "Shelf.slip"),("drop", "Shelf.drop")]
structure ClsG (P:PEnv):Prop where
 ex:∃C N mN,P.mg "Shelf" = some (.ref C)/\PyProof.Rows.ClsAt P.B C N mN/\mN "__getattribute__" = none/\mN "__getattr__" = none/\mN "kept" = none /\
  ∀x∈kS,∃f o fd,mN x.1=some (.ref f)/\P.B.get? f=some o/\o.cls=.type "function" /\ o.data=.func fd/\P.fn x.2=some (.ref f)
structure GOK (P:PEnv) (G:GT):Prop extends P.OK2 where
 cls:ClsG P
 fns:∀x,G.fns.contains x=true->∃fa o fd,P.mg x=some (.ref fa)/\P.B.get? fa=some o/\o.data=.func fd
 csts:∀x v,G.csts.lookup x=some v->∃u,P.mg x=some u/\∀h ι,P.B.StaysIn h->VR P.B h ι v u
 blt:∀b:Bi,P.mg b.nm=none/\P.mb b.nm=some b.val
 ty:∀t:Ty,P.mg t.ps=none/\P.mb t.ps=some (.type t.nm)
 isi:P.mg "isinstance" = none/\P.mb "isinstance" = some (.builtin "isinstance")
 its:∀t:ITy,P.mg t.str=none/\P.mb t.str=some (.type t.nm)
structure GN (C:Ctx) (x:Str):Prop where
 look:C.names.lookup x=some .globalImplicit
 dbg:(x == ("__debug__" : Str))=false
structure MethForm (o:Expr) (name:Str) (apos pos:Pos) (es:List Expr):Prop where
 he:∀env,eval (.Call (.Attribute o name apos) es [] pos) env=(do
   let ov <-eval o env
   standAt apos.atName
   let (f,first) <-holding [ov] (getMethod ov name (do return (<-importBound o env).getD true))
   callWith pos f first (backTo pos (bD es env)) [])
def m_ (P:PEnv) (d:Nat) (Φ:Fun):Prop:=∀f args H Q,Φ f args H Q->g6 P d f args H Q XF
def SndP (P:PEnv) (C:Ctx) (d:Nat) (e:Expr) (loc:Loc) (H:Hp) (Q:PQ):Prop :=
 EvOK P C d e loc H Q XF/\∀K:Bool->Hp->Prop,(∀v H',Q v H'->asB v λb=>K b H')->TsOK P C d e loc H K XF
theorem SndP.plain {P:PEnv}{C:Ctx}{d:Nat}{e:Expr}{loc:Loc}{H:Hp}{Q:PQ}(b:EvOK P C d e loc H Q XF) (f:∀env a,isTrue e env a=(do let v <-a;standAt e.pos;holding [v] (truthy v))):SndP P C d e loc H Q :=
 ⟨b,λK c=>EX (b.mono λv H' q=>(c v H' q).ex) f⟩
structure CE (G:GT) (C:Ctx) (m:ME) (e:Expr):Prop where
 star:∀rest env,bD (e::rest) env=(false,eval e env)::bD rest env
 marks:∀op,behindInMarks op e=false
 folded:∀env x,foldedSetIterable e env x=pure x
 snd:∀{P d Φ},GOK P G->m_ P d Φ->∀{loc H Q},wpE Φ m loc H Q->SndP P C d e loc H Q
structure CEs (G:GT) (C:Ctx) (ms:List ME) (es:List Expr):Prop where
 plain:pQ es
 snd:∀{P d Φ},GOK P G->m_ P d Φ->∀{loc H}{Q:PL},wpEs Φ ms loc H Q->lH P C d es loc H Q XF
structure CO (G:GT) (C:Ctx) (ms:List ME) (o:Option Expr):Prop where
 snd:∀{P d Φ},GOK P G->m_ P d Φ->∀{loc H}{Q:PL}{K:Option Int->Hp->Prop},wpEs Φ ms loc H Q->(∀vs H',Q vs H'->∃k,wK vs=some k/\K k H')->qf P C d o loc H K XF
noncomputable def IK.tt:IK->Bool
 | .enum=>true
 | _=>false
structure CI (G:GT) (C:Ctx) (k:IK) (ms:List ME) (e:Expr):Prop where
 folded:∀env x,foldedSetIterable e env x=pure x
 snd:∀{P d Φ},GOK P G->m_ P d Φ->∀{loc H}{K:KI},wpEs Φ ms loc H (kIt k K)->ItEv P k.tt C d e loc H K XF
structure CC (G:GT) (C:Ctx) (ms:List ME) (es:List Expr):Prop where
 snd:∀{P d Φ},GOK P G->m_ P d Φ->∀{loc H}{K K':Bool->Hp->Prop},(∀b H,K b H->K' b H)->wpCs Φ ms loc H K->qR P C d es loc H K'
structure CS (G:GT) (C:Ctx) (m:MS) (st:Stmt):Prop where
 snd:∀{P d Φ},GOK P G->m_ P d Φ->∀{loc H}{Q:PF},wpS Φ m loc H Q->ExOK P C d st loc H Q
structure CSs (G:GT) (C:Ctx) (ms:List MS) (sts:List Stmt):Prop where
 snd:∀{P d Φ},GOK P G->m_ P d Φ->∀{loc H}{Q:PF},wpSs Φ ms loc H Q->nV P C d sts loc H Q
end Mine
namespace Mine
open PySem
variable {P:PEnv}{C:Ctx}{d:Nat}{loc:Loc}{H:Hp}{X:XP}
theorem EvOK.len {Q:PQ}(h:loc.length=C.vars.length->EvOK P C d e loc H Q X):EvOK P C d e loc H Q X:=λA E env ι s w r a=>h r.len A E env ι s w r a
theorem ExOK.len {e:Stmt}{Q:PF}(h:loc.length=C.vars.length->ExOK P C d e loc H Q):ExOK P C d e loc H Q:=λA E env ι s w r=>h r.len A E env ι s w r
theorem xm {i h:Expr}{o:AV}{l:List AV}{k:Int}{Q:PQ}(f:seqL H o=some l) (e:idxL l k H Q):pH P d i h o (.int k) H Q:=by
 refine c7 (e) λc b=>?_;clear e;refine eX (b) λj z a g q=>?_;clear b;unfold place at a;split at a
 ·split at a
  ·cases a;exact EV f c (by assumption) g q
  ·cases a
 ·split at a
  ·cases a;exact GO f c (by lia) (by assumption) g q
  ·cases a
theorem E2 {o n:Expr}{x y:AV}{Q:PQ}(h:jT x y H Q):pH P d o n x y H Q:=by
 cases x with
 | ref i =>
  refine aK (asI.ex h) λk a g=>?_;subst a;split at g
  ·rename_i c;exact xm (by simp[seqL,c]) g
  ·rename_i c;obtain⟨z,b,f⟩:=g;exact EU c b f
  ·rename_i c;obtain⟨z,b,f⟩:=g;exact Gd c b f
  ·exact g.elim
 | tup l =>
  refine eT (asI.ex h) λk a b e=>?_;subst a;refine eX (e) λj z p r q=>?_;clear e;exact Dx b p r q
 | fro l =>
  refine aK (asI.ex h) λk a m=>?_;subst a;revert m;intro h;exact xm rfl h
 | _=>exact h.elim
theorem OpOK.mono {t:List Value->Sem Value}{b:List AV}{Q c:PQ}(h:OpOK P d t b H Q) (q:∀a H',Q a H'->c a H'):OpOK P d t b H c :=
 λA E ι s vs w r=>aD (h A E ι s vs w r) (λ_ _ g=>g.mono q) λ_ _ x=>x
noncomputable def Bi.call (f:Bi) (vs:List Value):Sem Value:=PySem.call f.val vs
theorem E3 (ok:P.OK2){x:AV}{Q:PQ}(h:tL x H Q):OpOK P d (λb=>Bi.len.call b) [x] H Q:=by
 cases x with
 | ref i =>
  simp only[tL] at h;split at h
  ·rename_i a;exact xg (by simp[seqL,a]) h.1 h.2
  ·rename_i a;exact CM ok a h.1 h.2
  ·exact h.elim
 | tup l=>exact CN h.1 h.2
 | fro l=>exact xg rfl h.1 h.2
 | _=>exact h.elim
theorem wpMm.ex {vs:List AV}{K:Int->Int->Prop}(h:wpMm vs K):∃a b,vs=[.int a,.int b]/\K a b:=by
 match vs,h with
 | [.int a,.int b],h=>exact⟨a,b,rfl,h⟩
theorem DH (ok:P.OK2){f:Bi}{vs:List AV}{Q:PQ}(h:wpBi f vs H Q):OpOK P d (λq=>f.call q) vs H Q:=by
 cases f with
 | len=>obtain⟨x,rfl,h⟩:=as1.ex h;exact E3 ok h
 | all=>obtain⟨x,rfl,bs,e,j⟩:=as1.ex h;exact A8 e j
 | list =>
  refine aK (as1.ex h) λx c g=>?_;subst c;revert g;intro h;refine eT (kE.ex h) λl e j k=>?_;cases x with
  | ref i =>
   cases hi:H[i]? with
   | none=>simp[lstL,hi] at e
   | some o =>
    cases o with
    | list m=>exact sX (.inl (by simp[lstL,hi] at e;simp[seqL,hi,e])) j k
    | dict m =>
     have:(m.map (·.1)).map AV.int=l:=by simpa [lstL,hi] using e
     subst this;exact En hi (by simpa using j) k
    | dicE m n=>simp[lstL,hi] at e
  | tup m=>exact sX (.inr (by rw[yj (show some m=some l from e)])) j k
  | fro m=>exact sX (.inl e) j k
  | _=>exact sX (.inl e) j k
 | tuple =>
  refine aK (as1.ex h) λx c g=>?_;subst c;revert g;intro h;refine eT (kE.ex h) λl e j k=>?_;exact GE e j k
 | int =>
  refine aK (as1.ex h) λx c g=>?_;subst c;revert g;intro h;refine aK (asB.ex h) λb c g=>?_;subst c;revert g;intro h;exact CJ h
 | min=>obtain⟨a,b,rfl,h⟩:=wpMm.ex h;exact A_ h
 | max=>obtain⟨a,b,rfl,h⟩:=wpMm.ex h;exact A9 h
 | sorted =>
  refine aK (as1.ex h) λx c p=>?_;subst c;refine eT (p) λr e j k=>?_;clear p;rcases e with e|⟨i,l,rfl,e,rfl⟩
  ·exact GD e j k
  ·exact GC e (by simpa using j) k
theorem xV {m:Mt}{x:AV}{vs:List AV}{Q:PQ}(h:wpMt m x vs H Q):OpOK P d (λn=>PySem.call (.builtin m.id) n) (x::vs) H Q:=by
 refine eX (onL.ex h) λi l a e g=>?_;subst a;revert g;intro h;cases m with
 | append=>obtain⟨x,rfl,h⟩:=as1.ex h;exact FA e h.1 h.2
 | pop=>obtain⟨rfl,c,o,x,rfl,q⟩:=h;exact Ba e (by simpa using c) q
 | extend =>
  refine aK (as1.ex h) λy b f=>?_;subst b;revert f;intro h;refine m9 (onL.ex h) λj m a c k q=>?_;subst a;exact FC e c k q
theorem xP (m:Mt) (hi:H[i]?=some (.list l)):qS P (.ref i) H m.nm m.id:=by
 cases m
 ·exact uV hi PySem.F.slot_list_append.lookup PySem.F.type_list_append
 ·exact uV hi PySem.F.slot_list_pop.lookup PySem.F.type_list_pop
 ·exact uV hi PySem.F.slot_list_extend.lookup PySem.F.type_list_extend
theorem E4 {o k x:AV}{K:Hp->Prop}(h:pI o k x H K):rH P d o k x H K:=by
 cases o with
 | ref i =>
  refine aK (asI.ex h) λk a g=>?_;subst a;split at g
  ·rename_i b;exact EP b g.1 g.2.1 g.2.2.1 g.2.2.2
  ·rename_i b;exact Fi b g.1 g.2
  ·exact g.elim
 | _=>exact h.elim
theorem FX {L:Loc}:∀{ws:List AV}{cv:Loc},cv.length=ws.length->nf (((bG ws.length).map (L.length+·)).zip ws) (L++cv)=L++ws.map some:=by
 have d:∀(ws:List AV) (b:Loc) (cv:Loc),cv.length=ws.length->nf (((bG ws.length).map (b.length+·)).zip ws) (b++cv)=b++ws.map some:=by
  intro ws
  induction ws with
  | nil=>intro b cv h;have:cv=[]:=bI.mp h;subst this;rfl
  | cons w ws ih =>
   intro b cv h;cases cv with
   | nil=>simp at h
   | cons c cv =>
    have e:(bG (w::ws).length).map (b.length+·)=b.length::(bG ws.length).map ((b++[some w]).length+·):=by rw[b_,List.range_succ_eq_map];simp only[aF,hA,cE,gW,true_and];apply cF;intro a _;simp only[Function.comp,aC,b_,gV];exact z117
    rw[e];show nf (((bG ws.length).map ((b++[some w]).length+·)).zip ws) ((b++c::cv).set b.length (some w))=_;have f:(b++c::cv).set b.length (some w)=(b++[some w])++cv:=by rw[cR _ _ (az _)];simp
    rw[f,ih (b++[some w]) cv (by simpa using h)];simp
 intro ws cv h;exact d ws L cv h
end Mine
namespace Mine
open PySem
variable {P:PEnv}{d:Nat}{G:GT}{Φ:Fun}{C:Ctx}
theorem DD {loc:Loc}{K:Bool->Hp->Prop}(h:TsOK P C d e loc H K XF):TsOK P C d (.BoolOp .And [e] pos) loc H K XF :=
 ud (h.mono λb H' k=>by cases b with|false=>exact k|true=>exact Gq k)
theorem BS {loc:Loc}{K:Bool->Hp->Prop}(h:TsOK P C d e loc H K XF):TsOK P C d (.BoolOp .Or [e] pos) loc H K XF :=
 tJ (h.mono λb H' k=>by cases b with|true=>exact k|false=>exact F8 k)
theorem Ey {x:AV}{K:KI}(h:xW x H K):∃items Cnd,ItOK P x H items Cnd/\K items Cnd H:=by
 cases x with
 | ref i=>obtain⟨l,a,b⟩:=kE.ex h;exact⟨_,_,C3 (zm a),b⟩
 | fro l=>exact⟨_,_,BN,h⟩
 | tup l=>exact⟨_,_,BP,h⟩
 | _=>exact h.elim
theorem zS {t:ITy}{vs:List AV}{K:KI}(h:wpIt t.ik vs H K):p8 P t.ik.tt d (λk=>PySem.call (.type t.nm) k) vs H K:=by
 cases t with
 | range =>
  match vs,h with
  | [.int n],h=>exact FG h.1 h.2.1 h.2.2
  | [.int a,.int b],h=>exact FH h.1 h.2.1 h.2.2.1 h.2.2.2.1 h.2.2.2.2
 | revd =>
  refine aK (as1.ex h) λx c e=>?_;subst c;revert e;intro h;refine eX (onL.ex h) λi l f g j=>?_;subst f;exact BO g j
 | enum =>
  refine aK (as1.ex h) λx c e=>?_;subst c;revert e;intro h;cases x with
  | tup l=>exact Ex h
  | _=>exact h.elim
theorem CEs.nil:CEs G C [] []:=⟨λ_ _=>rfl,λok a _ _ _ w=>uh w⟩
theorem CEs.cons {a:ME}{as:List ME}{x:Expr}(c:CE G C a x) (d:CEs G C as xs):CEs G C (a::as) (x::xs) :=
 ⟨λenv pos=>by rw[c.star];have:=d.plain env pos;simpa [backTo] using this,
  λok b _ _ _ w=>uN ((c.snd ok b (Q:=λv H'=>wpEs _ as _ H' λvs e=>_) w).1.mono λv H' w=>d.snd ok b w) λenv=>c.star _ env⟩
theorem CO.none:CO G C [] none:=⟨λok d _ _ _ _ w c=>by
 refine aK (c [] _ w) λk a b=>?_;cases a;exact b⟩
theorem CO.some {a:ME}{x:Expr}(f:CE G C a x):CO G C [a] (some x):=⟨λok b _ _ _ _ w e=>by
 refine(f.snd ok b w).1.mono λv H' q=>?_;refine aK (e _ _ q) λk c d=>?_;cases v with
 | int i=>cases c;exact⟨i,rfl,d⟩
 | _=>cases c⟩
theorem CI.plain {a:ME}{x:Expr}(c:CE G C a x):CI G C .plain [a] x :=
 ⟨c.folded,λok b _ _ _ w=>xr ((c.snd ok b w).1.mono λx d w=>Ey w)⟩
theorem CI.ty {a:ME}{as:List ME}{x:Expr}{g:Pos}{t:ITy}(c:GN C t.str) (e:CE G C a x) (d:CEs G C as xs):CI G C t.ik (a::as) (.Call (.Name t.str g) (x::xs) [] pos) :=
 ⟨λ_ _=>rfl,λok b _ _ _ w=>C1 ok.toOK c.look c.dbg (ok.its t).1 (ok.its t).2 (((CEs.cons e d).snd ok b w).mono λvs f w=>zS w) (λenv=>e.star _ env) d.plain⟩
theorem CC.nil:CC G C [] []:=⟨λok b _ _ _ _ a w=>a _ _ w⟩
theorem CC.one {a:ME}{x:Expr}(g:CE G C a x):CC G C [a] [x]:=⟨λok d _ _ _ _ f w=>by
 refine(g.snd ok d w).2 _ λv H' q=>?_;refine aK (asB.ex q) λb c e=>?_;subst c;revert e;intro q;cases b with
 | false=>exact f _ _ q
 | true=>exact f _ _ q⟩
namespace CE
theorem int {i:Int}:CE G C (.cst (.int i)) (.Constant (.int i) k pos):=⟨λ_ _=>rfl,λ_=>rfl,λ_ _=>rfl,λok a _ _ _ w=>.plain (AX w) λ_ _=>rfl⟩
theorem str {x:Str}(a:ff x=true):CE G C (.cst (.str x)) (.Constant (.str x) k pos):=⟨λ_ _=>rfl,λ_=>rfl,λ_ _=>rfl,λok b _ _ _ w=>.plain (A3 a w) λ_ _=>rfl⟩
theorem bool {x:Bool}:CE G C (.cst (.bool x)) (.Constant (.bool x) k pos):=⟨λ_ _=>rfl,λ_=>rfl,λ_ _=>rfl,λok a _ _ _ w=>.plain (Cp w) λ_ _=>rfl⟩
theorem none :CE G C (.cst .none) (.Constant .none k pos):=⟨λ_ _=>rfl,λ_=>rfl,λ_ _=>rfl,λok a _ _ _ w=>.plain (Cu w) λ_ _=>rfl⟩
theorem glob {x:Str}(d:G.csts.lookup x=some v) (a:GN C x):CE G C (.cst v) (.Name x pos):=⟨λ_ _=>rfl,λ_=>rfl,λ_ _=>rfl,λok e _ _ _ w=>by
 refine aK (ok.csts _ _ d) λu b c=>?_;exact .plain (Cs ok.toOK a.dbg b c w a.look) λ_ _=>rfl⟩
theorem loc {x:Str}(a:C.vars[i]?=some (some x)) (b:(x == ("__debug__" : Str))=false) (c:(x == ("__classdict__" : Str))=false):CE G C (.loc i) (.Name x pos):=⟨λ_ _=>rfl,λ_=>rfl,λ_ _=>rfl,λok d _ _ _ w=>by
 refine aK (atL.ex w) λv hv q=>?_;exact .plain (AZ a b c hv q) λ_ _=>rfl⟩
section
variable {a b c:ME}{x y z:Expr}{pos:Pos}
theorem bin {op:BOp}(d:CE G C a x) (e:CE G C b y):CE G C (.bin op a b) (.BinOp x op.op y pos):=⟨λ_ _=>rfl,λ_=>rfl,λ_ _=>rfl,λok c _ _ _ w =>
 .plain (wv ((d.snd ok c w).1.mono λx f w=>(e.snd ok c w).1.mono λy g w=>E1 w)) λ_ _=>rfl⟩
theorem cmp {op:COp}(e:CE G C a x) (d:CE G C b y):CE G C (.cmp op a b) (.Compare x [op.op] [y] pos):=⟨λ_ _=>rfl,λ_=>rfl,λ_ _=>rfl,λok c _ _ _ w =>
 ⟨AW ((e.snd ok c w).1.mono λx f w=>(d.snd ok c w).1.mono λy g w=>qy ok.toOK2 w) (d.marks _),
  λK h=>Ci ((e.snd ok c w).1.mono λx f w=>(d.snd ok c w).1.mono λy g w=>OpOK.mono (qy ok.toOK2 w) λv H' q=>(h v H' q).ex) (d.marks _)⟩⟩
theorem cmp2 {k o2:COp}(h:CE G C a x) (i:CE G C b y) (g:CE G C c z):CE G C (.cmp2 k o2 a b c) (.Compare x [k.op,o2.op] [y,z] pos):=⟨λ_ _=>rfl,λ_=>rfl,λ_ _=>rfl,λok d _ _ _ w=>by
 refine⟨?_,λK j=>?_⟩
 ·refine Cq ((h.snd ok d w).1.mono λx l w=>(i.snd ok d w).1.mono λy m w=>OpOK.mono (qy ok.toOK2 w) λv H' q=>?_) (g.marks _);refine aK (asB.ex q) λt e f=>?_;subst e;revert f;intro q;refine⟨t,rfl,?_⟩;cases t with
  | false=>exact q
  | true=>exact(g.snd ok d q).1.mono λz n w=>qy ok.toOK2 w
 ·refine DE ((h.snd ok d w).1.mono λx l w=>(i.snd ok d w).1.mono λy m w=>OpOK.mono (qy ok.toOK2 w) λv H' q=>?_) (g.marks _);refine aK (asB.ex q) λt e f=>?_;subst e;revert f;intro q;refine⟨t,rfl,?_⟩;cases t with
  | false=>exact j _ _ q
  | true=>exact(g.snd ok d q).1.mono λz n w=>OpOK.mono (qy ok.toOK2 w) λv H' q=>(j v H' q).ex⟩
theorem not (f:CE G C a x):CE G C (.not a) (.UnaryOp .Not x pos):=⟨λ_ _=>rfl,λ_=>rfl,λ_ _=>rfl,λok c _ _ _ w =>
 ⟨A2 ((f.snd ok c w).1.mono λv H' q=>asB.ex q),λK g=>BR ((f.snd ok c w).2 _ λv H' q=>by
  refine aK (asB.ex q) λb d e=>?_;subst d;revert e;intro q;exact g _ _ q)⟩⟩
theorem neg (c:CE G C a x):CE G C (.neg a) (.UnaryOp .USub x pos):=⟨λ_ _=>rfl,λ_=>rfl,λ_ _=>rfl,λok b _ _ _ w =>
 .plain (A1 ((c.snd ok b w).1.mono λv H' q=>asI.ex q)) λ_ _=>rfl⟩
theorem and2 (f:CE G C a x) (g:CE G C b y):CE G C (.and2 a b) (.BoolOp .And [x,y] pos):=⟨λ_ _=>rfl,λ_=>rfl,λ_ _=>rfl,λok c _ _ _ w=>by
 refine⟨wq ((f.snd ok c w).1.mono λv H' w=>?_),λK h=>ud ((f.snd ok c w).2 _ λv H' w=>?_)⟩
 ·refine aK (asB.ex w) λt d e=>?_;subst d;revert e;intro w;refine⟨t,rfl,?_⟩;cases t with
  | false=>exact w
  | true=>exact yP (g.snd ok c w).1
 ·refine aK (asB.ex w) λt d e=>?_;subst d;revert e;intro w;cases t with
  | false=>exact h _ _ w
  | true=>exact DD ((g.snd ok c w).2 K h)⟩
theorem or2 (f:CE G C a x) (g:CE G C b y):CE G C (.or2 a b) (.BoolOp .Or [x,y] pos):=⟨λ_ _=>rfl,λ_=>rfl,λ_ _=>rfl,λok c _ _ _ w=>by
 refine⟨v3 ((f.snd ok c w).1.mono λv H' w=>?_),λK h=>tJ ((f.snd ok c w).2 _ λv H' w=>?_)⟩
 ·refine aK (asB.ex w) λt d e=>?_;subst d;revert e;intro w;refine⟨t,rfl,?_⟩;cases t with
  | true=>exact w
  | false=>exact yP (g.snd ok c w).1
 ·refine aK (asB.ex w) λt d e=>?_;subst d;revert e;intro w;cases t with
  | true=>exact h _ _ w
  | false=>exact BS ((g.snd ok c w).2 K h)⟩
theorem and3 {r:List Expr}(f:CE G C a x) (g:CE G C b (.BoolOp .And (y::z::r) pos)):CE G C (.and2 a b) (.BoolOp .And (x::y::z::r) pos):=⟨λ_ _=>rfl,λ_=>rfl,λ_ _=>rfl,λok c _ _ _ w=>by
 refine⟨wq ((f.snd ok c w).1.mono λv H' w=>?_),λK h=>ud ((f.snd ok c w).2 _ λv H' w=>?_)⟩
 ·refine aK (asB.ex w) λt d e=>?_;subst d;revert e;intro w;refine⟨t,rfl,?_⟩;cases t with
  | false=>exact w
  | true=>exact(g.snd ok c w).1
 ·refine aK (asB.ex w) λt d e=>?_;subst d;revert e;intro w;cases t with
  | false=>exact h _ _ w
  | true=>exact(g.snd ok c w).2 K h⟩
theorem or3 {r:List Expr}(f:CE G C a x) (g:CE G C b (.BoolOp .Or (y::z::r) pos)):CE G C (.or2 a b) (.BoolOp .Or (x::y::z::r) pos):=⟨λ_ _=>rfl,λ_=>rfl,λ_ _=>rfl,λok c _ _ _ w=>by
 refine⟨v3 ((f.snd ok c w).1.mono λv H' w=>?_),λK h=>tJ ((f.snd ok c w).2 _ λv H' w=>?_)⟩
 ·refine aK (asB.ex w) λt d e=>?_;subst d;revert e;intro w;refine⟨t,rfl,?_⟩;cases t with
  | true=>exact w
  | false=>exact(g.snd ok c w).1
 ·refine aK (asB.ex w) λt d e=>?_;subst d;revert e;intro w;cases t with
  | true=>exact h _ _ w
  | false=>exact(g.snd ok c w).2 K h⟩
theorem call {f:Str}{as:List ME}{k:Pos}(i:G.fns.contains f=true) (c:GN C f) (d:CE G C a x) (j:CEs G C as xs):CE G C (.call f (a::as)) (.Call (.Name f k) (x::xs) [] pos):=⟨λ_ _=>rfl,λ_=>rfl,λ_ _=>rfl,λok b _ _ _ w=>by
 refine kM (ok.fns _ i) λl o fd e g h=>?_;exact .plain (xw ok.toOK c.look c.dbg e g h (((CEs.cons d j).snd ok b w).mono λvs H' w=>b _ _ _ _ w) λenv=>d.star _ env) λ_ _=>rfl⟩
theorem bi {as:List ME}{k:Pos}{f:Bi}(c:GN C f.nm) (g:CE G C a x) (e:CEs G C as xs):CE G C (.bi f (a::as)) (.Call (.Name f.nm k) (x::xs) [] pos):=⟨λ_ _=>rfl,λ_=>rfl,λ_ _=>rfl,λ{P d Φ} ok j _ _ _ w=>by
 refine c7 (ok.blt f) λh i=>?_;have b:=((CEs.cons g e).snd ok j w).mono λvs H' w=>DH (P:=P) (d:=d) ok.toOK2 w;refine .plain ?_ λ_ _=>rfl;cases f with
 | list=>exact to ok.toOK c.look c.dbg h i b (λenv=>g.star _ env) e.plain
 | tuple=>exact to ok.toOK c.look c.dbg h i b (λenv=>g.star _ env) e.plain
 | int=>exact to ok.toOK c.look c.dbg h i b (λenv=>g.star _ env) e.plain
 | _=>exact zM ok.toOK c.look c.dbg h i b (λenv=>g.star _ env) e.plain⟩
theorem isi {e f:Pos}{t:Ty}(c:GN C "isinstance") (gt:GN C t.ps) (d:CE G C a x):CE G C (.isi a t) (.Call (.Name "isinstance" e) [x,.Name t.ps f] [] pos):=⟨λ_ _=>rfl,λ_=>rfl,λ_ _=>rfl,λok b _ _ _ w =>
 .plain (AY ok.toOK c.look c.dbg ok.isi.1 ok.isi.2 gt.look gt.dbg (.inr (ok.ty t)) ((d.snd ok b w).1.mono λv H' w=>BM w) λenv=>d.star _ env) λ_ _=>rfl⟩
theorem idx (d:CE G C a x) (e:CE G C b y):CE G C (.idx a b) (.Subscript x y pos):=⟨λ_ _=>rfl,λ_=>rfl,λ_ _=>rfl,λok c _ _ _ w =>
 .plain (A4 ((d.snd ok c w).1.mono λx f w=>(e.snd ok c w).1.mono λy g w=>E2 w)) λ_ _=>rfl⟩
theorem slc {p:Pos}{lo hi:List ME}{l h:Option Expr}(j:CE G C a x) (m:CO G C lo l) (k:CO G C hi h):CE G C (.slc a lo hi) (.Subscript x (.Slice l h .none p) pos):=⟨λ_ _=>rfl,λ_=>rfl,λ_ _=>rfl,λok b _ _ _ w=>by
 refine .plain (EN ((j.snd ok b w).1.mono λx r w=>?_)) λ_ _=>rfl;refine m.snd ok b w λu s w=>?_;refine eT (oz.ex w) λn c d w=>?_;refine⟨n,c,k.snd ok b w λvs t w=>?_⟩;refine eT (oz.ex w) λo e f w=>?_;refine eT (kE.ex w) λl g i q=>?_;exact⟨o,e,l,g,i,d,f,q⟩⟩
theorem slcT {p:Pos}{lo hi:List ME}{l h:Option Expr}(j:CE G C a x) (n:CO G C lo l) (k:CO G C hi h):CE G C (.slcT a lo hi) (.Subscript x (.Slice l h .none p) pos):=⟨λ_ _=>rfl,λ_=>rfl,λ_ _=>rfl,λok b _ _ _ w=>by
 refine .plain (FL ((j.snd ok b w).1.mono λx s w=>?_)) λ_ _=>rfl;refine n.snd ok b w λv t w=>?_;refine eT (oz.ex w) λo d e w=>?_;refine⟨o,d,k.snd ok b w λvs u w=>?_⟩;refine eT (oz.ex w) λr f g w=>?_;refine eT (kE.ex w) λl c i q=>?_;cases x with
 | tup m=>cases c;exact⟨r,f,_,rfl,i,e,g,q⟩
 | _=>cases c⟩
theorem tup {as:List ME}(b:CEs G C as xs):CE G C (.tup as) (.Tuple xs k pos):=⟨λ_ _=>rfl,λ_=>rfl,λ_ _=>rfl,λok a _ _ _ w=>.plain (wx (b.snd ok a w)) λ_ _=>rfl⟩
theorem lst {as:List ME}(b:CEs G C as xs):CE G C (.lst as) (.List xs pos):=⟨λ_ _=>rfl,λ_=>rfl,λ_ _=>rfl,λok a _ _ _ w=>.plain (A0 (b.snd ok a w)) λ_ _=>rfl⟩
theorem dic0:CE G C .dic0 (.Dict [] [] pos):=⟨λ_ _=>rfl,λ_=>rfl,λ_ _=>rfl,λok a _ _ _ w=>.plain (Cr ok.toOK2 w) λ_ _=>rfl⟩
theorem meth0 {m:Mt}{b:Pos}(j:CE G C a x) (g:MethForm x m.nm b pos []):CE G C (.meth m a []) (.Call (.Attribute x m.nm b) [] [] pos):=⟨λ_ _=>rfl,λ_=>rfl,λ_ _=>rfl,λok e _ _ _ w=>by
 refine .plain (EM (pl:=λenv=>do return (<-importBound _ env).getD true) ((j.snd ok e w).1.mono λx k w=>?_) g.he) λ_ _=>rfl;refine c7 (w) λc f=>?_;clear w;refine kB (c) λi l d h=>?_;clear c;subst d;revert f;intro w;exact⟨m.id,xP m h,xV w⟩⟩
theorem meth {m:Mt}{c:Pos}{as:List ME}{xs:List Expr}(o:CE G C a x) (j:CE G C b y) (h:CEs G C as xs) (k:MethForm x m.nm c pos (y::xs)):CE G C (.meth m a (b::as)) (.Call (.Attribute x m.nm c) (y::xs) [] pos):=⟨λ_ _=>rfl,λ_=>rfl,λ_ _=>rfl,λok d _ _ _ w=>by
 refine .plain (xz (pl:=λenv=>do return (<-importBound _ env).getD true) ((o.snd ok d w).1.mono λx p w=>?_) k.he (λenv=>j.star _ env) h.plain) λ_ _=>rfl;refine c7 (w) λe g=>?_;clear w;refine kB (e) λi l f n=>?_;clear e;subst f;revert g;intro w;exact⟨m.id,xP m n,((CEs.cons j h).snd ok d w).mono λvs q w=>xV w⟩⟩
end
end CE
def oK (C:Ctx) (t:Bool) (n:Nat) (scope:Scope) (locals:List Str) (xt:Expr):Prop :=
 locals.length=n/\∀{P:PEnv}{y:AV}{ws:List AV}{loc cv:Loc}{K:Loc->Prop},oq t n y=some ws->loc.length=C.vars.length->cv.length=locals.length->K (loc++ws.map some)->ws.length=locals.length/\TgOK P (jU C scope locals) xt y (loc++cv) K
theorem zD {n:Nat}{y:AV}{ws:List AV}(h:oq false n y=some ws):n=1/\ws=[y]:=by
 unfold oq at h;simp only at h;split at h
 ·cases h;exact⟨by assumption,rfl⟩
 ·cases h
theorem zw {n:Nat}{y:AV}{ws:List AV}(h:oq true n y=some ws):y=.tup ws/\ws.length=n:=by
 unfold oq at h;simp only at h;split at h
 ·split at h
  ·cases h;exact⟨rfl,by assumption⟩
  ·cases h
 ·cases h
theorem oK.one {scope:Scope}{x:Str}{g:Pos}(h:Slot (jU C scope [x]) C.vars.length x):oK C false 1 scope [x] (.Name x g):=⟨rfl,λ{P y ws loc cv K} f a d e=>by
 refine c7 (zD f) λ_ b=>?_;subst b;refine⟨rfl,uw h ?_⟩;obtain⟨c,rfl⟩:∃c,cv=[c]:=by
  match cv,d with
  | [c],_=>exact⟨c,rfl⟩
 rw[<-a,cR _ _ (az _)];simpa using e⟩
theorem oK.tup {scope:Scope}{n:Nat}{locals:List Str}{f:List Expr}{i:Nat}{j:Pos}(e:locals.length=n) (nm:Names (jU C scope locals) f ((bG n).map (C.vars.length+·))):oK C true n scope locals (.Tuple f i j):=⟨e,λ{P y ws loc cv K} h a d g=>by
 refine c7 (zw h) λc b=>?_;subst c;refine⟨by rw[b,e],ub nm (by simp[b]) ?_⟩;have:=FX (L:=loc) (ws:=ws) (cv:=cv) (by rw[d,e,b]);rw[b,a] at this;rw[this];exact g⟩
theorem w7 {t:Bool}{n:Nat}{f:ME}{k:IK}{its a:List ME}{u x v:Expr}{h:List Expr}{scope:Scope}{locals:List Str}{loc:Loc}{H:Hp}{Q:PQ}
  (ok:GOK P G) (e:m_ P d Φ) (hi:CI G C k its v) (F:CE G (jU C scope locals) f u) (E:CC G (jU C scope locals) a h) (s:oK C t n scope locals x) (c:loc.length=C.vars.length)
  (w:wpE Φ (.comp t n f k its a) loc H Q):tM P k.tt C d u x v h scope locals loc H (λl H'=>Q (.ref H'.length) (H'++[.list l])) XF:=by
 refine(hi.snd ok e w).mono λitems Cnd O o=>?_;refine c7 (o) λL j=>?_;clear o;refine aK (j) λJ N m=>?_;clear j;refine⟨L,J,N,λi l H' I=>?_⟩;refine fT (m i l H' I) λA B D=>?_;refine⟨A,λy M cv g=>?_,D⟩;refine aK (B y M) λws r o=>?_;have p:=(s.2 (P:=P) (K:=λ_=>True) r c g trivial).1;refine(s.2 r c g ⟨⟨_,by rw[ya];exact p,rfl⟩,E.snd ok e (λb z q=>?_) o⟩).2;cases b with
 | false=>exact q
 | true=>exact(F.snd ok e q).1
structure CL (G:GT) (C:Ctx) (t:Bool) (n:Nat) (elt:ME) (k:IK) (its cond:List ME) (xe xt xi:Expr) (ifs:List Expr) (scope:Scope) (locals:List Str):Prop where
 cg:CompOK C scope locals
 hi:CI G C k its xi
 he:CE G (jU C scope locals) elt xe
 hc:CC G (jU C scope locals) cond ifs
 tg:oK C t n scope locals xt
theorem CE.comp {t:Bool}{n:Nat}{b:ME}{k:IK}{its a:List ME}{g f i:Expr}{d:List Expr}{scope:Scope}{locals:List Str}(h:CL G C t n b k its a g f i d scope locals) (j:k.tt=true->nW f=true) :
  CE G C (.comp t n b k its a) (.ListComp g [⟨f,i,d,0⟩] scope pos):=⟨λ_ _=>rfl,λ_=>rfl,λ_ _=>rfl,λok e _ _ _ w =>
 .plain (EvOK.len λc=>xy h.cg j (w7 ok e h.hi h.he h.hc h.tg c w) h.hi.folded) λ_ _=>rfl⟩
end Mine
namespace Mine
open PySem
variable {P:PEnv}{d:Nat}{G:GT}{Φ:Fun}{C:Ctx}
theorem ExOK.mono {st:Stmt}{loc:Loc}{Q b:PF}(h:ExOK P C d st loc H Q) (q:∀f l H,Q f l H->b f l H):ExOK P C d st loc H b :=
 λA E env ι s w e=>aD (h A E env ι s w e) (λf s' g=>by
  obtain⟨ι',H',a,i,p,c,r,z⟩:=g;exact⟨ι',H',a,i,p,c,r,q _ _ _ z⟩) λ_ _ x=>x
namespace CS
section
variable {a b c:ME}{x y z:Expr}{pos p:Pos}{n:Str}{i:Nat}
theorem asg (e:Slot C i n) (c:CE G C a x) (d:∀env,dQ x (some (.Name n p)) pos.line env=pure false):CS G C (.asg i a) (.Assign [.Name n p] x pos):=⟨λok b _ _ _ w=>FN e (c.snd ok b w).1 d⟩
theorem asgC {t:Bool}{c:ME}{k:IK}{its a:List ME}{j g l:Expr}{e:List Expr}{scope:Scope}{locals:List Str}{b:Pos}(q:Slot C i n) (h:CL G C t m c k its a j g l e scope locals) (o:k.tt=true->nW g=true) :
  CS G C (.asg i (.comp t m c k its a)) (.Assign [.Name n p] (.ListComp j [⟨g,l,e,0⟩] scope b) pos):=⟨λok f loc _ Q w =>
 ExOK.len λd=>GY q h.cg o (w7 (Q:=λv H'=>Q .next (loc.set i (some v)) H') ok f h.hi h.he h.hc h.tg d w) h.hi.folded⟩
theorem asgT {is:List Nat}{b:List Expr}{d:Pos}(nm:Names C b is) (e:CE G C a x) (f:∀env,swapsWithSole [.Tuple b k d] x pos.line env=pure false) (g:∀env,swappedStores [.Tuple b k d] x env=pure none):CS G C (.asgT is a) (.Assign [.Tuple b k d] x pos) :=
 ⟨λok c _ _ _ w=>GB nm ((e.snd ok c w).1.mono λv H' q=>asT.ex q) f g⟩
theorem sto (g:CE G C c z) (e:CE G C a x) (f:CE G C b y) (h:∀env,dQ z (some (.Subscript x y p)) pos.line env=pure false):CS G C (.sto a b c) (.Assign [.Subscript x y p] z pos):=⟨λok d _ _ _ w =>
 EO ((g.snd ok d w).1.mono λx i w=>(e.snd ok d w).1.mono λy j w=>(f.snd ok d w).1.mono λz k w=>E4 w) h⟩
theorem ite {f mb:List MS}{g h:List Stmt}(k:CE G C a x) (i:CSs G C f g) (j:CSs G C mb h):CS G C (.ite a f mb) (.If x g h pos):=⟨λok b _ _ _ w =>
 zN ((k.snd ok b w).2 _ λv H' q=>by
  refine aK (asB.ex q) λc d e=>?_;subst d;revert e;intro q;cases c with
  | false=>exact j.snd ok b q
  | true=>exact i.snd ok b q)⟩
theorem whl {mb:List MS}{g:List Stmt}(j:CE G C a x) (h:CSs G C mb g):CS G C (.whl a mb) (.While x g [] pos):=⟨λok b _ _ _ w=>by
 refine kB (w) λJ n k d=>?_;clear w;refine Ej J n k λn loc H i=>(j.snd ok b (d n loc H i)).2 _ λv H' q=>?_;refine aK (asB.ex q) λc e f=>?_;subst e;revert f;intro q;cases c with
 | false=>exact q
 | true=>exact h.snd ok b q⟩
theorem for1 {k:IK}{its:List ME}{mb:List MS}{d:List Stmt}(t:Slot C i n) (hi:CI G C k its x) (h:CSs G C mb d) (l:k.tt=false):CS G C (.forr false [i] k its mb) (.For (.Name n p) x d [] pos):=⟨λok a _ _ _ w=>by
 refine zh (λz=>by rw[l] at z;cases z) ((hi.snd ok a w).mono λitems Cnd u q=>?_) hi.folded;refine aK (q) λJ s b=>?_;clear q;refine⟨J,s,λi loc H j=>?_⟩;refine fT (b i loc H j) λe f g=>?_;refine⟨e,λy r=>?_,g⟩;refine aK (f y r) λws m o=>?_;refine c7 (zD m) λ_ c=>?_;subst c;exact uw t (h.snd ok a o)⟩
theorem forT {is:List Nat}{k:IK}{its:List ME}{mb:List MS}{e:List Stmt}{d:List Expr}{s:Nat}{t:Pos}(nm:Names C d is) (hi:CI G C k its x) (j:CSs G C mb e):CS G C (.forr true is k its mb) (.For (.Tuple d s t) x e [] pos):=⟨λok a _ _ _ w=>by
 refine zh (λ_=>rfl) ((hi.snd ok a w).mono λitems Cnd u q=>?_) hi.folded;refine aK (q) λJ r b=>?_;clear q;refine⟨J,r,λi loc H l=>?_⟩;refine fT (b i loc H l) λf g h=>?_;refine⟨f,λy p=>?_,h⟩;refine aK (g y p) λws n o=>?_;refine c7 (zw n) λc m=>?_;subst c;exact ub nm m (j.snd ok a o)⟩
theorem ret (c:CE G C a x):CS G C (.ret a) (.Return (some x) pos):=⟨λok b _ _ _ w=>A6 (c.snd ok b w).1⟩
theorem expr (c:CE G C a x) (d:∀env,dQ x none pos.line env=pure false):CS G C (.expr a) (.Expr x pos):=⟨λok b _ _ _ w=>Cz (c.snd ok b w).1 d⟩
end
end CS
theorem CSs.nil:CSs G C [] []:=⟨λok a _ _ _ w=>xB w⟩
theorem CSs.cons {m:MS}{ms:List MS}{x:Stmt}{xs:List Stmt}(d:CS G C m x) (c:CSs G C ms xs):CSs G C (m::ms) (x::xs):=⟨λok a _ _ _ w =>
 Em ((d.snd ok a w).mono λb l H' q=>by
  cases b with
  | next=>exact c.snd ok a q
  | _=>exact q)⟩
theorem wU (ok:GOK P G) (b:m_ P d Φ){x:Str}{params:List Str}{body:List Stmt}{f:MF}{a:List AV}{Q:PQ}(fn:FnAt P x C params body) (good:C.good params=true) (cs:CSs G C f.body body) (e:params.length=f.params) (hv:C.vars.length=f.vars)
  (w:wpF Φ f a H Q):g6 P (d+1) x a H Q XF:=by
 refine c7 (w) λc w=>?_;refine zc ok.toOK fn good (by rw[c,e]) (cs.snd ok b ?_);unfold start;rw[hv,c];exact w
end Mine
namespace Mine
open PySem
variable {Φ:Fun}{loc:Loc}{H:Hp}{Q:PQ}
theorem gC {K:Bool->Prop}{b:Bool}(a:b=true->K true) (c:b=false->K false):K b:=by
 cases b with
 | true=>exact a rfl
 | false=>exact c rfl
theorem fR {K:Bool->Prop}{p:Prop}{i:Decidable p}(a:p->K true) (b:¬ p->K false):K (@decide p i) :=
 gC (λh=>a (of_decide_eq_true h)) λh=>b (of_decide_eq_false h)
theorem oY {K:Bool->Prop}{p:Prop}{i:Decidable p}(a:¬ p->K true) (b:p->K false):K (!(@decide p i)) :=
 gC (λh=>a (by simpa using h)) λh=>b (by simpa using h)
theorem withL_some {K:List AV->Prop}:kE (some l) K=K l:=rfl
theorem e_cst :wpE Φ (.cst v) loc H Q=Q v H:=rfl
theorem e_n {i:Int}:wpE Φ (.n i) loc H Q=Q (.int i) H:=rfl
theorem e_loc0 :wpE Φ (.loc 0) (some v::loc) H Q=Q v H:=rfl
theorem e_locS {o:Option AV}:wpE Φ (.loc (i+1)) (o::loc) H Q=wpE Φ (.loc i) loc H Q:=rfl
theorem e_bin {op:BOp}{a b:ME}:wpE Φ (.bin op a b) loc H Q=wpE Φ a loc H (tw Φ op b loc Q):=rfl
theorem k_bin1 {op:BOp}{b:ME}{x:AV}:tw Φ op b loc Q x H=wpE Φ b loc H (tz op x Q):=rfl
theorem k_bin2 {op:BOp}{x y:AV}:tz op x Q y H=n7 op x y H Q:=rfl
theorem e_cmp {op:COp}{a b:ME}:wpE Φ (.cmp op a b) loc H Q=wpE Φ a loc H (qE Φ op b loc Q):=rfl
theorem k_cmp1 {op:COp}{b:ME}{x:AV}:qE Φ op b loc Q x H=wpE Φ b loc H (qF op x Q):=rfl
theorem k_cmp2 {op:COp}{x y:AV}:qF op x Q y H=kt op x y H Q:=rfl
theorem e_cmp2 {d o2:COp}{a b c:ME}:wpE Φ (.cmp2 d o2 a b c) loc H Q=wpE Φ a loc H (kC1 Φ d o2 b c loc Q):=rfl
theorem k_c1 {a o2:COp}{b c:ME}{x:AV}:kC1 Φ a o2 b c loc Q x H=wpE Φ b loc H (kC2 Φ a o2 c loc x Q):=rfl
theorem k_c2 {a o2:COp}{c:ME}{x y:AV}:kC2 Φ a o2 c loc x Q y H=kt a x y H (kC3 Φ o2 c loc y Q):=rfl
theorem k_c3 {o2:COp}{c:ME}{y:AV}{b:Bool}:kC3 Φ o2 c loc y Q (.bool b) H=kC4 Φ o2 c loc y Q H b:=rfl
theorem k_c4t {o2:COp}{c:ME}{y:AV}:kC4 Φ o2 c loc y Q H true=wpE Φ c loc H (qF o2 y Q):=rfl
theorem k_c4f {o2:COp}{c:ME}{y:AV}:kC4 Φ o2 c loc y Q H false=Q (.bool false) H:=rfl
theorem e_not {a:ME}:wpE Φ (.not a) loc H Q=wpE Φ a loc H (kNot Q):=rfl
theorem k_not {b:Bool}:kNot Q (.bool b) H=Q (.bool !b) H:=rfl
theorem e_neg {a:ME}:wpE Φ (.neg a) loc H Q=wpE Φ a loc H (kNeg Q):=rfl
theorem k_neg :kNeg Q (.int b) H=Q (.int (-b)) H:=rfl
theorem e_and2 {a b:ME}:wpE Φ (.and2 a b) loc H Q=wpE Φ a loc H (kAnd Φ b loc Q):=rfl
theorem k_and {b:ME}{t:Bool}:kAnd Φ b loc Q (.bool t) H=pY Φ b loc Q H t:=rfl
theorem k_andt {b:ME}:pY Φ b loc Q H true=wpE Φ b loc H Q:=rfl
theorem k_andf {b:ME}:pY Φ b loc Q H false=Q (.bool false) H:=rfl
theorem e_or2 {a b:ME}:wpE Φ (.or2 a b) loc H Q=wpE Φ a loc H (kOr Φ b loc Q):=rfl
theorem k_or {b:ME}{t:Bool}:kOr Φ b loc Q (.bool t) H=kOrB Φ b loc Q H t:=rfl
theorem k_ort {b:ME}:kOrB Φ b loc Q H true=Q (.bool true) H:=rfl
theorem k_orf {b:ME}:kOrB Φ b loc Q H false=wpE Φ b loc H Q:=rfl
theorem e_call {f:Str}{as:List ME}:wpE Φ (.call f as) loc H Q=wpEs Φ as loc H (tA Φ f Q):=rfl
theorem k_call {f:Str}{vs:List AV}:tA Φ f Q vs H=Φ f vs H Q:=rfl
theorem e_bi {f:Bi}{as:List ME}:wpE Φ (.bi f as) loc H Q=wpEs Φ as loc H (kBi f Q):=rfl
theorem k_bi {f:Bi}{vs:List AV}:kBi f Q vs H=wpBi f vs H Q:=rfl
theorem e_isi {a:ME}{t:Ty}:wpE Φ (.isi a t) loc H Q=wpE Φ a loc H (kIsi t Q):=rfl
theorem k_isi {t:Ty}:kIsi t Q v H=Q (.bool (isi H v t)) H:=rfl
theorem e_idx {a b:ME}:wpE Φ (.idx a b) loc H Q=wpE Φ a loc H (tB Φ b loc Q):=rfl
theorem k_idx1 {b:ME}{x:AV}:tB Φ b loc Q x H=wpE Φ b loc H (tC x Q):=rfl
theorem k_idx2 {x y:AV}:tC x Q y H=jT x y H Q:=rfl
theorem e_slc {a:ME}{lo hi:List ME}:wpE Φ (.slc a lo hi) loc H Q=wpE Φ a loc H (kS1 Φ lo hi loc Q):=rfl
theorem k_s1 {lo hi:List ME}{x:AV}:kS1 Φ lo hi loc Q x H=wpEs Φ lo loc H (kS2 Φ hi loc x Q):=rfl
theorem k_s2n {hi:List ME}{x:AV}:kS2 Φ hi loc x Q [] H=wpEs Φ hi loc H (kS4 x none Q):=rfl
theorem k_s2o {hi:List ME}{x:AV}{k:Int}:kS2 Φ hi loc x Q [.int k] H=(0<=k/\wpEs Φ hi loc H (kS4 x (some k) Q)):=rfl
theorem k_s4n {x:AV}{a:Option Int}:kS4 x a Q [] H=kE (seqL H x) (kS6 a none Q H):=rfl
theorem k_s4o {x:AV}{a:Option Int}{k:Int}:kS4 x a Q [.int k] H=(0<=k/\kE (seqL H x) (kS6 a (some k) Q H)):=rfl
theorem k_s6 {a b:Option Int}:kS6 a b Q H l=(l.length<=ag/\Q (.ref H.length) (H++[.list (gm l a b)])):=rfl
theorem e_slcT {a:ME}{lo hi:List ME}:wpE Φ (.slcT a lo hi) loc H Q=wpE Φ a loc H (kT1 Φ lo hi loc Q):=rfl
theorem k_t1 {lo hi:List ME}{x:AV}:kT1 Φ lo hi loc Q x H=wpEs Φ lo loc H (kT2 Φ hi loc x Q):=rfl
theorem k_t2n {hi:List ME}{x:AV}:kT2 Φ hi loc x Q [] H=wpEs Φ hi loc H (kT4 x none Q):=rfl
theorem k_t2o {hi:List ME}{x:AV}{k:Int}:kT2 Φ hi loc x Q [.int k] H=(0<=k/\wpEs Φ hi loc H (kT4 x (some k) Q)):=rfl
theorem k_t4n {a:Option Int}:kT4 (.tup l) a Q [] H=(l.length<=ag/\Q (.tup (gm l a none)) H):=rfl
theorem k_t4o {a:Option Int}{k:Int}:kT4 (.tup l) a Q [.int k] H=(0<=k/\l.length<=ag/\Q (.tup (gm l a (some k))) H):=rfl
theorem e_rev {a:ME}:wpE Φ (.rev a) loc H Q=wpE Φ a loc H (kRev Q):=rfl
theorem e_tup {es:List ME}:wpE Φ (.tup es) loc H Q=wpEs Φ es loc H (kTup Q):=rfl
theorem k_tup {vs:List AV}:kTup Q vs H=(vs.length<=ag/\Q (.tup vs) H):=rfl
theorem e_lst {es:List ME}:wpE Φ (.lst es) loc H Q=wpEs Φ es loc H (kLst Q):=rfl
theorem k_lst {vs:List AV}:kLst Q vs H=(vs.length<=ag/\Q (.ref H.length) (H++[.list vs])):=rfl
theorem e_dic0:wpE Φ .dic0 loc H Q=Q (.ref H.length) (H++[.dict []]):=rfl
theorem e_dic1 {k v:ME}:wpE Φ (.dic1 k v) loc H Q=wpE Φ k loc (H++[.dict []]) (kD1 Φ v loc H.length Q):=rfl
theorem k_d1 {v:ME}{n:Nat}{i:Int}:kD1 Φ v loc n Q (.int i) H=wpE Φ v loc H (kD3 n i Q):=rfl
theorem k_d3 {n:Nat}{i:Int}{y:AV}:kD3 n i Q y H=(H[n]?=some (.dict [])/\Q (.ref n) (H.set n (.dict [(i,y)]))):=rfl
theorem e_meth {m:Mt}{o:ME}{as:List ME}:wpE Φ (.meth m o as) loc H Q=wpE Φ o loc H (kM1 Φ m as loc Q):=rfl
theorem k_m1 {m:Mt}{as:List ME}{x:AV}:kM1 Φ m as loc Q x H=(isL H x/\wpEs Φ as loc H (kM2 m x Q)):=rfl
theorem k_m2 {m:Mt}{x:AV}{vs:List AV}:kM2 m x Q vs H=wpMt m x vs H Q:=rfl
theorem es_nil {Q:List AV->Hp->Prop}:wpEs Φ [] loc H Q=Q [] H:=rfl
theorem es_cons {e:ME}{es:List ME}{Q:List AV->Hp->Prop}:wpEs Φ (e::es) loc H Q=wpE Φ e loc H (kE1 Φ es loc Q):=rfl
theorem k_e1 {es:List ME}{Q:List AV->Hp->Prop}:kE1 Φ es loc Q v H=wpEs Φ es loc H (kE2 v Q):=rfl
theorem k_e2 {Q:List AV->Hp->Prop}{vs:List AV}:kE2 v Q vs H=Q (v::vs) H:=rfl
theorem cs_nil {K:Bool->Hp->Prop}:wpCs Φ [] loc H K=K true H:=rfl
theorem cs_cons {e:ME}{es:List ME}{K:Bool->Hp->Prop}:wpCs Φ (e::es) loc H K=wpE Φ e loc H (kCs Φ es loc K):=rfl
theorem k_cs {es:List ME}{K:Bool->Hp->Prop}{b:Bool}:kCs Φ es loc K (.bool b) H=kCsB Φ es loc K H b:=rfl
theorem k_cst {es:List ME}{K:Bool->Hp->Prop}:kCsB Φ es loc K H true=wpCs Φ es loc H K:=rfl
theorem k_csf {es:List ME}{K:Bool->Hp->Prop}:kCsB Φ es loc K H false=K false H:=rfl
theorem k_it {k:IK}{K:KI}{vs:List AV}:kIt k K vs H=wpIt k vs H K:=rfl
theorem b_add :n7 .add (.int a) (.int b) H Q=Q (.int (a+b)) H:=rfl
theorem b_sub :n7 .sub (.int a) (.int b) H Q=Q (.int (a-b)) H:=rfl
theorem b_mul :n7 .mul (.int a) (.int b) H Q=(IntMulOk a b/\Q (.int (a*b)) H):=rfl
theorem b_mod :n7 .mod (.int a) (.int b) H Q=(b≠0/\Q (.int (a.fmod b)) H):=rfl
theorem b_fdiv :n7 .fdiv (.int a) (.int b) H Q=(b≠0/\NoPy a b/\Q (.int (a.fdiv b)) H):=rfl
theorem b_pow :n7 .pow (.int a) (.int b) H Q=(0<=b/\b<=1000000/\a.natAbs<2^64/\Q (.int (a^b.toNat)) H):=rfl
theorem b_addT {m:List AV}:n7 .add (.tup l) (.tup m) H Q=(l.length+m.length<=ag/\Q (.tup (l++m)) H):=rfl
theorem uH (h:H[i]?=some (.list l)):seqL H (.ref i)=some l:=congrArg (λo:Option AObj=>match o with|some (.list l)=>some l|_=>none) h
theorem wk {m:List AV}(e:H[i]?=some (.list l)) (f:H[j]?=some (.list m)):n7 .add (.ref i) (.ref j) H Q=(l.length+m.length<=ag/\Q (.ref H.length) (H++[.list (l++m)])):=propext ⟨λq=>m9 (p0:=λc d=>H[i]?=some (.list c)) (p1:=λc d=>H[j]?=some (.list d)) (p2:=λc d=>c.length+d.length<=ag) (p3:=λc d=>Q (.ref H.length) (H++[AObj.list (c++d)])) q λc d g h a b=>by
 cases yj (e.symm.trans g);cases yj (f.symm.trans h);exact⟨a,b⟩,λq=>⟨l,m,e,f,q⟩⟩
theorem c_lt :kt .lt (.int a) (.int b) H Q=Q (.bool (decide (a<b))) H:=rfl
theorem c_le :kt .le (.int a) (.int b) H Q=Q (.bool (decide (a<=b))) H:=rfl
theorem c_gt :kt .gt (.int a) (.int b) H Q=Q (.bool (decide (b<a))) H:=rfl
theorem c_ge :kt .ge (.int a) (.int b) H Q=Q (.bool (decide (b<=a))) H:=rfl
theorem c_eqI :kt .eq (.int a) (.int b) H Q=Q (.bool (decide (a=b))) H:=by show Q (.bool (a == b)) H=_;rw[show(a == b)=decide (a=b) from rfl]
theorem c_neI :kt .ne (.int a) (.int b) H Q=Q (.bool (!decide (a=b))) H:=by show Q (.bool !(a == b)) H=_;rw[show(a == b)=decide (a=b) from rfl]
theorem c_eqS {a b:Str}:kt .eq (.str a) (.str b) H Q=Q (.bool (a == b)) H:=rfl
theorem c_neS {a b:Str}:kt .ne (.str a) (.str b) H Q=Q (.bool (!(a == b))) H:=rfl
theorem c_eqB {a b:Bool}:kt .eq (.bool a) (.bool b) H Q=Q (.bool (a == b)) H:=rfl
theorem c_neB {a b:Bool}:kt .ne (.bool a) (.bool b) H Q=Q (.bool (!(a == b))) H:=rfl
theorem rV {k:Int}(h:H[i]?=some (.list l)):jT (.ref i) (.int k) H Q=idxL l k H Q:=congrArg (λo:Option AObj=>match o with|some (.list l)=>idxL l k H Q|some (.dict l)=>∃z,dget l k=some z/\Q z H|some (.dicE l _)=>∃z,dget l k=some z/\Q z H|none=>False) h
theorem oN {l:List (Int×AV)}{k:Int}(h:H[i]?=some (.dict l)):jT (.ref i) (.int k) H Q=(∃z,dget l k=some z/\Q z H):=congrArg (λo:Option AObj=>match o with|some (.list l)=>idxL l k H Q|some (.dict l)=>∃z,dget l k=some z/\Q z H|some (.dicE l _)=>∃z,dget l k=some z/\Q z H|none=>False) h
theorem tI {k:Int}:jT (.tup l) (.int k) H Q=(l.length<2^62/\∃j z,place k l.length=some j/\l[j]?=some z/\Q z H):=rfl
theorem i_tup0 :jT (.tup (v::l)) (.int 0) H Q=((v::l).length<2^62/\Q v H):=by rw[tI];simp[place]
theorem i_tup1 {u:AV}:jT (.tup (u::v::l)) (.int 1) H Q=((u::v::l).length<2^62/\Q v H):=by
 rw[tI];have:place 1 (u::v::l).length=some 1:=by unfold place;simp;exact Int.compare_eq_gt.mp rfl
 rw[this];simp
theorem i_tup2 {u t:AV}:jT (.tup (t::u::v::l)) (.int 2) H Q=((t::u::v::l).length<2^62/\Q v H):=by
 rw[tI];have:place 2 (t::u::v::l).length=some 2:=by unfold place;simp;exact Int.compare_eq_gt.mp rfl
 rw[this];simp
theorem oO {x:AV}{k:Int}{z:AV}(a:anyL H x=some l) (d:l.length<2^62) (f:0<=k) (b:l[k.toNat]?=some z) (q:Q z H):jT x (.int k) H Q:=by
 have c:k.toNat<l.length:=(ym b).1;have e:place k l.length=some k.toNat:=by unfold place;rw[if_pos f,if_pos (by exact jS c)]
 cases x with
 | tup m=>cases a;exact⟨d,_,_,e,b,q⟩
 | fro m=>cases a;exact⟨d,_,_,e,b,q⟩
 | ref i =>
  simp only[anyL,seqL] at a;split at a
  ·rename_i h;cases a;rw[rV h];exact⟨d,_,_,e,b,q⟩
  ·cases a
 | _=>simp[anyL,seqL] at a
theorem l_tup :wpBi .len [.tup l] H Q=(l.length<2^62/\Q (.int l.length) H):=rfl
theorem l_fro :wpBi .len [.fro l] H Q=(l.length<2^62/\Q (.int l.length) H):=rfl
theorem rY (h:H[i]?=some (.list l)):wpBi .len [.ref i] H Q=(l.length<2^62/\Q (.int l.length) H):=congrArg (λo:Option AObj=>match o with|some (.list l)=>l.length<2^62/\Q (.int l.length) H|some (.dict l)=>l.length<2^62/\Q (.int l.length) H|_=>False) h
theorem Bm {l:List (Int×AV)}(h:H[i]?=some (.dict l)):wpBi .len [.ref i] H Q=(l.length<2^62/\Q (.int l.length) H):=congrArg (λo:Option AObj=>match o with|some (.list l)=>l.length<2^62/\Q (.int l.length) H|some (.dict l)=>l.length<2^62/\Q (.int l.length) H|_=>False) h
theorem wW (h:H[i]?=some (.list l)):wpBi .tuple [.ref i] H Q=(l.length<=ag/\Q (.tup l) H):=congrArg (λo=>kE o λl=>l.length<=ag/\Q (.tup l) H) (uH h)
theorem g_tup :wpBi .list [.tup l] H Q=(l.length<=ag/\Q (.ref H.length) (H++[.list l])):=rfl
theorem n_bool {b:Bool}:wpBi .int [.bool b] H Q=Q (.int (if b then 1 else 0)) H:=rfl
theorem n_min :wpBi .min [.int a,.int b] H Q=Q (.int (if b<a then b else a)) H:=rfl
theorem n_max :wpBi .max [.int a,.int b] H Q=Q (.int (if b>a then b else a)) H:=rfl
theorem vW {bs:List Bool}(h:H[i]?=some (.list (bs.map .bool))):wpBi .all [.ref i] H Q↔Q (.bool (bs.all λb=>b)) H :=
 ⟨λq=>aK (p0:=λcs:List Bool=>seqL H (.ref i)=some (cs.map AV.bool)) (p1:=λcs:List Bool=>Q (.bool (cs.all λb=>b)) H) q λcs e k=>by
  have z:bs=cs:=List.map_inj_right (λ_ _ h=>AV.bool.inj h) |>.mp (yj ((uH h).symm.trans e));rw[z];exact k,λq=>⟨bs,uH h,q⟩⟩
theorem sJ {x:AV}(h:H[i]?=some (.list l)):wpMt .append (.ref i) [x] H Q=(l.length<=ag/\Q .none (H.set i (.list (l++[x])))):=q_ h
theorem mr (h:H[i]?=some (.list l)):isL H (.ref i):=⟨i,l,rfl,h⟩
section
variable {Q:PF}
theorem ss_nil:wpSs Φ [] loc H Q=Q .next loc H:=rfl
theorem thenS_next {a:List MS}:o_ Φ a Q .next loc H=wpSs Φ a loc H Q:=rfl
theorem thenS_ret {a:List MS}:o_ Φ a Q (.ret v) loc H=Q (.ret v) loc H:=rfl
theorem ss_cons {s:MS}{a:List MS}:wpSs Φ (s::a) loc H Q=wpS Φ s loc H (o_ Φ a Q):=rfl
theorem s_asg {e:ME}:wpS Φ (.asg i e) loc H Q=wpE Φ e loc H (kAsg i loc Q):=rfl
theorem k_asg :kAsg i loc Q v H=Q .next (loc.set i (some v)) H:=rfl
theorem s_asgT {is:List Nat}{e:ME}:wpS Φ (.asgT is e) loc H Q=wpE Φ e loc H (tq is loc Q):=rfl
theorem k_asgT {is:List Nat}:tq is loc Q (.tup l) H=(l.length=is.length/\Q .next (nf (is.zip l) loc) H):=rfl
theorem s_sto {o k e:ME}:wpS Φ (.sto o k e) loc H Q=wpE Φ e loc H (tD Φ o k loc Q):=rfl
theorem k_sto1 {o k:ME}{x:AV}:tD Φ o k loc Q x H=wpE Φ o loc H (tE Φ k x loc Q):=rfl
theorem k_sto2 {k:ME}{x y:AV}:tE Φ k x loc Q y H=wpE Φ k loc H (tF x y loc Q):=rfl
theorem k_sto3 {x y z:AV}:tF x y loc Q z H=pI y z x H (tG loc Q):=rfl
theorem k_sto4:tG loc Q H=Q .next loc H:=rfl
theorem s_ite {t:ME}{a b:List MS}:wpS Φ (.ite t a b) loc H Q=wpE Φ t loc H (kIte Φ a b loc Q):=rfl
theorem k_ite {a b:List MS}{c:Bool}:kIte Φ a b loc Q (.bool c) H=oj Φ a b loc Q H c:=rfl
theorem k_itet {a b:List MS}:oj Φ a b loc Q H true=wpSs Φ a loc H Q:=rfl
theorem k_itef {a b:List MS}:oj Φ a b loc Q H false=wpSs Φ b loc H Q:=rfl
theorem s_ret {e:ME}:wpS Φ (.ret e) loc H Q=wpE Φ e loc H (kRet loc Q):=rfl
theorem k_ret :kRet loc Q v H=Q (.ret v) loc H:=rfl
theorem s_ret0:wpS Φ .ret0 loc H Q=Q (.ret .none) loc H:=rfl
theorem s_expr {e:ME}:wpS Φ (.expr e) loc H Q=wpE Φ e loc H (kExp loc Q):=rfl
theorem k_exp :kExp loc Q v H=Q .next loc H:=rfl
theorem end_ret {R:PQ}:i6 R (.ret v) loc H=R v H:=rfl
theorem end_next {R:PQ}:i6 R .next loc H=R .none H:=rfl
theorem nX {J:Nat->Loc->Hp->Prop}{n:Nat}(m:Nat) (a:m<n) (h:J m loc H):whlK J n Q .next loc H:=⟨m,a,h⟩
theorem whlK_ret {J:Nat->Loc->Hp->Prop}{n:Nat}:whlK J n Q (.ret v) loc H=Q (.ret v) loc H:=rfl
theorem k_whl {b:List MS}{J:Nat->Loc->Hp->Prop}{n:Nat}{c:Bool}:kWhl Φ b J n loc Q (.bool c) H=rO Φ b J n loc Q H c:=rfl
theorem k_whlt {b:List MS}{J:Nat->Loc->Hp->Prop}{n:Nat}:rO Φ b J n loc Q H true=wpSs Φ b loc H (whlK J n Q):=rfl
theorem k_whlf {b:List MS}{J:Nat->Loc->Hp->Prop}{n:Nat}:rO Φ b J n loc Q H false=Q .next loc H:=rfl
theorem oy {t:ME}{b:List MS}(J:Nat->Loc->Hp->Prop) (n:Nat) (c:J n loc H)
  (a:∀n loc H,J n loc H->wpE Φ t loc H (kWhl Φ b J n loc Q)):wpS Φ (.whl t b) loc H Q:=⟨J,n,c,a⟩
theorem jG {J:Nat->Loc->Hp->Prop}{n:Nat}(h:J (n+1) loc H):forK J n Q .next loc H:=h
theorem forK_ret {J:Nat->Loc->Hp->Prop}{n:Nat}:forK J n Q (.ret v) loc H=Q (.ret v) loc H:=rfl
theorem s_for {t:Bool}{is:List Nat}{k:IK}{its:List ME}{b:List MS}:wpS Φ (.forr t is k its b) loc H Q=wpEs Φ its loc H (kIt k (forI Φ t is b loc Q)):=rfl
theorem lC {t:Bool}{is:List Nat}{b:List MS}{items:List AV}{Cnd:Hp->Prop}(J:Nat->Loc->Hp->Prop) (c:J 0 loc H) (a:∀i loc H,J i loc H->Cnd H /\
   (∀y,items[i]?=some y->∃ws,oq t is.length y=some ws/\wpSs Φ b (nf (is.zip ws) loc) H (forK J i Q)) /\
   (i=items.length->Q .next loc H)):forI Φ t is b loc Q items Cnd H:=⟨J,c,a⟩
end
theorem r_one {n:Int}{K:KI}:wpIt .range [.int n] H K=(-(2^62)<=n/\n<2^62/\K ((bG n.toNat).map λ(k:Nat)=>AV.int k) (λ_=>True) H):=rfl
theorem r_two {K:KI}:wpIt .range [.int a,.int b] H K=(-(2^62)<=a/\a<2^62 /\ -(2^62)<=b/\b<2^62/\K ((bG (b-a).toNat).map λ(k:Nat)=>AV.int (a+k)) (λ_=>True) H):=rfl
theorem r_tup {K:KI}:wpIt .plain [.tup l] H K=K l (λ_=>True) H:=rfl
theorem r_enum {K:KI}:wpIt .enum [.tup l] H K=K (oA l) (λ_=>True) H:=rfl
theorem oB {K:KI}(h:H[i]?=some (.list l)):wpIt .plain [.ref i] H K=K l (λH'=>H'[i]?=some (.list l)) H:=by show kE (oZ H i) _=_;rw[yu h];rfl
theorem AE {K:KI}(h:H[i]?=some (.list l)):wpIt .revd [.ref i] H K=K l.reverse (λH'=>H'[i]?=some (.list l)) H:=by show onL (.ref i) H (λi l=>K l.reverse (λH'=>H'[i]?=some (.list l)) H)=_;rw[q_ h]
theorem e_comp {t:Bool}{n:Nat}{b:ME}{k:IK}{its a:List ME}:wpE Φ (.comp t n b k its a) loc H Q=wpEs Φ its loc H (kIt k (p7 Φ t n b a loc Q)):=rfl
theorem sS {t:Bool}{n:Nat}{b:ME}{a:List ME}{items:List AV}{Cnd:Hp->Prop}(p:AV->Option AV) (s:items.length<=ag) (r:Cnd H)
  (d:∀y∈items,∃ws,oq t n y=some ws/\(∀K:Bool->Hp->Prop,K (p y).isSome H->wpCs Φ a (loc++ws.map some) H K)/\∀v,p y=some v->∀Q:PQ,Q v H->wpE Φ b (loc++ws.map some) H Q)
  (q:Q (.ref H.length) (H++[.list (items.filterMap p)])):p7 Φ t n b a loc Q items Cnd H:=by
 refine⟨s,λi l H'=>H'=H/\l=(items.take i).filterMap p,⟨rfl,by simp⟩,?_⟩;intro i l H' c;refine c7 (c) λf g=>?_;clear c;subst f;subst g;refine⟨r,λy k=>?_,λe=>by rw[e,ku];exact q⟩;refine eT (d y (yc k)) λws u m o=>?_;refine⟨ws,u,m _ ?_⟩;have j:items.take (i+1)=items.take i++[y]:=by rw[cM,k];rfl
 cases h:p y with
 | none =>
  refine⟨rfl,?_⟩;rw[j,mG];simp[h]
 | some v =>
  refine o v h _ ⟨rfl,?_⟩;rw[j,mG];simp[h]
theorem rf {t:Bool}{n:Nat}{a:ME}{items:List AV}{Cnd:Hp->Prop}(p:AV->AV) (d:items.length<=ag) (c:Cnd H)
  (b:∀y∈items,∃ws,oq t n y=some ws/\∀Q:PQ,Q (p y) H->wpE Φ a (loc++ws.map some) H Q)
  (q:Q (.ref H.length) (H++[.list (items.map p)])):p7 Φ t n a [] loc Q items Cnd H:=by
 refine sS (λy=>some (p y)) d c (λy f=>?_) (by simpa using q);refine aK (b y f) λws e h=>?_;exact⟨ws,e,λK k=>by rw[cs_nil];exact k,λv hv=>by cases hv;exact h⟩
end Mine
namespace Mine
open PySem PySem.W PyProof.Rows
noncomputable def pX (p:Program) (loose:List Str) (x:Str):Bool :=
 !(startupNames.contains x)&&!((looseW p loose).contains x)&&!(((recsOf p).map (·.name)).contains x)&&!(((litsOf p).map (·.1)).contains x)&&!(((clssOf p (looseW p loose)).map (·.name)).contains x)
section
variable {p:Program}{loose:List Str}{R:WRecords}{XP:(Str->Option Value)->Heap->Prop}{w:World}{s₀:Shared}{mg mb:Str->Option Value}{h:Heap}{prog:Program}
theorem um (G:Ground p loose R XP w s0 mg mb h){x:Str}(a:pX p loose x=true):mg x=none:=by simp only[pX,aS,cT,i_,decide_eq_false_iff_not] at a;refine c7 (a) λb g=>?_;clear a;obtain⟨⟨⟨c,d⟩,e⟩,f⟩:=b;exact G.T.free x c d e f g
theorem wJ {B:Heap}{mc:Str->Option Value}(G:Ground p loose R XP w s0 mg mb h) (st:h.StaysIn B):(PEnv.mk prog w B mg mb mc).OK2 where
 g:=G.T.g.keeps st
 b:=G.T.b.keeps st
 nolimit:=G.T.nolimit.keeps st
 low:=by refine aK (G.T.nodigits) λ_ a _=>?_;refine nS (a) λo _ _ c _=>?_;clear a;exact⟨_,o,st _ _ c,by decide⟩
noncomputable def pL:List Str:=["len", "all", "any", "sorted", "list", "tuple", "int", "min", "max", "bool", "str", "isinstance", "range", "reversed", "enumerate"]
theorem CR (b:Bi):bootBuiltins b.nm=some b.val:=by cases b<;>decide+kernel
theorem CT (b:Ty):bootBuiltins b.ps=some (.type b.nm):=by cases b<;>decide+kernel
theorem D_ (b:ITy):bootBuiltins b.str=some (.type b.nm):=by cases b<;>decide+kernel
theorem D9:bootBuiltins "isinstance" = some (.builtin "isinstance"):=by decide+kernel
theorem Ae (b:Bi):b.nm∈pL/\b.nm ≠ "__name__" := by cases b<;>decide+kernel
theorem Af (b:Ty):b.ps∈pL/\b.ps ≠ "__name__" := by cases b<;>decide+kernel
theorem Bv (b:ITy):b.str∈pL/\b.str ≠ "__name__" := by cases b<;>decide+kernel
theorem Bu:("isinstance" : Str)∈pL/\("isinstance" : Str) ≠ "__name__" := by decide+kernel
theorem BJ {Γ:GT}{B:Heap}{mc:Str->Option Value}(G:Ground p loose R XP w s0 mg mb h) (st:h.StaysIn B) (k:ClsG (PEnv.mk prog w B mg mb mc)) (q:pL.all (λx=>pX p loose x)=true) (t:Γ.fns.all (λx=>((recsOf p).map (·.name)).contains x)=true)
  (r:∀x v,Γ.csts.lookup x=some v->∃u,mg x=some u/\∀h' ι,B.StaysIn h'->VR B h' ι v u):GOK (PEnv.mk prog w B mg mb mc) Γ:=by
 have g:∀x,x∈pL/\x ≠ "__name__" -> mg x=none/\mb x=bootBuiltins x:=λx i=>⟨um G (aN.mp q x i.1),G.T.builtins x i.2⟩;refine{ toOK2:=wJ G st,cls:=k,fns:=λx i=>?_,csts:=r,blt:=λb=>?_,ty:=λb=>?_,isi:=?_,its:=λb=>?_ }
 ·have:=aN.mp t x (by simpa using i);simp only[i_,decide_eq_true_eq,jY] at this;refine aK (this) λd s j=>?_;clear this;subst j;refine nY (G.T.fn d s) λa o y l m c e f=>?_;refine c7 (f) λn _=>?_;clear f;exact⟨a,o,_,c,st _ _ e,n⟩
 ·obtain⟨c,e⟩:=g _ (Ae b);exact⟨c,e.trans (CR b)⟩
 ·obtain⟨c,e⟩:=g _ (Af b);exact⟨c,e.trans (CT b)⟩
 ·obtain⟨c,e⟩:=g _ Bu;exact⟨c,e.trans D9⟩
 ·obtain⟨c,e⟩:=g _ (Bv b);exact⟨c,e.trans (D_ b)⟩
structure FnOK (p:Program) (Γ:GT) (x:Str) (vars params:List Str) (f:MF):Prop where
 ex:∃d,d∈recsOf p/\d.name=x/\d.scope.kind=.function/\d.scope.isCoroutine=false/\d.scope.isGenerator=false/\(Ctx.mk (vars.map some) d.scope.names 0).good params=true /\
  CSs Γ ⟨vars.map some,d.scope.names,0⟩ f.body d.body/\params.length=f.params/\vars.length=f.vars /\
  ∀pm cd doc vals,vals.length=params.length->bindArgs (iM d.name d.params d.body d.scope pm cd doc) ⟨vals,[]⟩=pure (params.zip vals)
theorem FnOK.call {B:Heap}{mc:Str->Option Value}{Γ:GT}{x:Str}{vars params:List Str}{f:MF}{n:Nat}{Φ:Fun}{b:List AV}{H:Hp}{Q:PQ}(fn:FnOK p Γ x vars params f) (G:Ground p loose R XP w s0 mg mb h) (st:h.StaysIn B) (ok:GOK (PEnv.mk prog w B mg mb mc) Γ)
  (k:∀f b H Q,Φ f b H Q->g6 (PEnv.mk prog w B mg mb mc) n f b H Q XF) (z:wpF Φ f b H Q):g6 (PEnv.mk prog w B mg mb mc) (n+1) x b H Q XF:=by
 refine oJ (fn.ex) λd t j k1 k2 k3 e=>?_;subst j;refine oh (e) λgood cs v hv s=>?_;clear e;refine nY (G.T.fn d t) λa o y c i l m g=>?_;refine c7 (g) λq r=>?_;clear g;refine wU ok k (C:=⟨vars.map some,d.scope.names,0⟩) (params:=params) ⟨⟨a,o,_,PEnv.fn_mg l,st _ _ m,q,rfl,rfl,k1,k2,k3,rfl,rfl,rfl,r.keeps st,λvals u=>s y c i vals u⟩⟩ good cs v (by rw[ya];exact hv) z
noncomputable def nZ:List (Str×Str):=("__init__", "Shelf.__init__")::kS
noncomputable def mcOf (mN:Str->Option Value) (x:Str):Option Value:=match nZ.find? (λp=>p.2 == x) with|some p=>mN p.1|none=>none
theorem xO (mN:Str->Option Value):∀p∈nZ,mcOf mN p.2=mN p.1:=λp a=>by
 rcases yg a with rfl|a
 ·rfl
 rcases yg a with rfl|a
 ·rfl
 rcases yg a with rfl|a
 ·rfl
 rcases yg a with rfl|a
 ·rfl
 rcases yg a with rfl|a
 ·rfl
 rcases yg a with rfl|a
 ·rfl
 ·cases a
structure ClsK (p:Program) (loose:List Str) (c:ClsRec) (mg:Str->Option Value) (h:Heap) (mc:Str->Option Value):Prop where
 free:∀q∈nZ,mg q.2=none
 ex:∃C N mN,mg "Shelf" = some (.ref C)/\PlainAt h c.withCmp C N mN/\mc=mcOf mN
theorem CX (G:Ground p loose R XP w s0 mg mb h){c:ClsRec}(d:c∈plainsOf p (looseW p loose)) (f:c.name = "Shelf") (e:nZ.all (λq=>pX p loose q.2)=true):∃mc,ClsK p loose c mg h mc:=by refine nS (G.TE c d) λC N mN a b=>?_;exact⟨_,λq g=>um G (aN.mp e q g),C,N,mN,f▸a,b,rfl⟩
theorem ClsK.at {B:Heap}{mc:Str->Option Value}{c:ClsRec}(K:ClsK p loose c mg h mc) (st:h.StaysIn B){q:Str×Str}(g:q∈nZ){m:MethRec}(j:m∈c.meths) (k:m.name=q.1) :
  ∃f o e cd a,(PEnv.mk prog w B mg mb mc).fn q.2=some (.ref f)/\B.get? f=some o/\o.cls=.type "function" /\ o.data=.func (methDef m.name (c.name ++ "." ++ m.name) m.params m.body m.scope e cd a)/\B.CodeRec cd (c.name ++ "." ++ m.name):=by
 refine kM (K.ex) λC N mN u i d=>?_;subst d;refine nY (i.meths m j) λf o e cd a l n b=>?_;refine fT (b) λr s t=>?_;clear b;exact⟨f,o,e,cd,a,(PEnv.fn_mc (K.free q g)).trans ((xO mN q g).trans (k▸l)),st _ _ n,r,s,t.keeps st⟩
theorem ClsK.clsG {B:Heap}{mc:Str->Option Value}{c:ClsRec}(K:ClsK p loose c mg h mc) (st:h.StaysIn B) (t:("kept" : Str)∈c.statics) (u:∀q∈kS,∃m∈c.meths,m.name=q.1):ClsG (PEnv.mk prog w B mg mb mc):=by
 refine kM (id K.ex) λC N mN s b j=>?_;subst j;refine⟨C,N,mN,s,b.cls.keeps st,b.quiet _ ?_,b.quiet _ ?_,b.quiet _ ?_,λq i=>?_⟩
 ·simp[ClsRec.quiet]
 ·simp[ClsRec.quiet]
 ·simp[ClsRec.quiet,ClsRec.withCmp,t]
 ·refine aK (u q i) λm d a=>?_;refine nY (K.at (prog:=prog) (w:=w) (mb:=mb) st (yi _ i) d a) λf o z cd n k v g=>?_;refine fT (g) λx y A=>?_;clear g;refine zI (b.meths m d) λr _ _ _ _ l _=>?_;have e:some (db r)=some (.ref f):=l.symm.trans ((a▸(xO mN q (yi _ i)).symm).trans ((PEnv.fn_mc (P:=PEnv.mk prog w B mg mb (mcOf mN)) (K.free q (yi _ i))).symm.trans k));exact⟨f,o,_,(a▸l).trans e,v,x,y,k⟩
structure FnM (p:Program) (Γ:GT) (c:ClsRec) (q:Str×Str) (vars params:List Str) (f:MF):Prop where
 ex:q∈nZ/\∃d,d∈c.meths/\d.name=q.1/\d.scope.kind=.function/\d.scope.isCoroutine=false/\d.scope.isGenerator=false/\(Ctx.mk (vars.map some) d.scope.names 0).good params=true /\
  CSs Γ ⟨vars.map some,d.scope.names,0⟩ f.body d.body/\params.length=f.params/\vars.length=f.vars /\
  ∀pm cd doc vals,vals.length=params.length->bindArgs (methDef d.name (c.name ++ "." ++ d.name) d.params d.body d.scope pm cd doc) ⟨vals,[]⟩=pure (params.zip vals)
theorem FnM.call {B:Heap}{mc:Str->Option Value}{Γ:GT}{c:ClsRec}{q:Str×Str}{vars params:List Str}{f:MF}{n:Nat}{Φ:Fun}{b:List AV}{H:Hp}{Q:PQ}(fn:FnM p Γ c q vars params f) (K:ClsK p loose c mg h mc) (st:h.StaysIn B) (ok:GOK (PEnv.mk prog w B mg mb mc) Γ)
  (l:∀f b H Q,Φ f b H Q->g6 (PEnv.mk prog w B mg mb mc) n f b H Q XF) (E:wpF Φ f b H Q):g6 (PEnv.mk prog w B mg mb mc) (n+1) q.2 b H Q XF:=by
 refine c7 (fn.ex) λA g=>?_;refine oJ (g) λd v y k1 k2 k3 i=>?_;clear g;refine oh (i) λgood cs z hv u=>?_;clear i;refine nY (K.at (prog:=prog) (w:=w) (mb:=mb) st A v y) λa o D e k m r j=>?_;refine fT (j) λ_ s t=>?_;clear j;exact wU ok l (C:=⟨vars.map some,d.scope.names,0⟩) (params:=params) ⟨⟨a,o,_,m,r,s,rfl,rfl,k1,k2,k3,rfl,rfl,rfl,t,λvals x=>u D e k vals x⟩⟩ good cs z (by rw[ya];exact hv) E
theorem finish {mc:Str->Option Value}{c:ClaimW}{t:Str->Option Addr}{h:ExcName->Option Value}{d:List WData}{j l:Addr}{f:List Int}{n:Nat}(m:mg "law" = some (.ref j)) (A:s1.gens=#[]) (s:n<200)
  (x:s1.heap.IsList l vs.toArray) (u:IntsAre vs f) (C:∀cls,c.raises d cls=false) (B:c.post d (.bool true) d=true)
  (y:g6 (PEnv.mk prog w s1.heap mg mb mc) n "law" [.fro (f.map .int)] [] (λv _=>v=.bool true) XF) :
  codeAny (model prog w) callerA (.call (.ref j) ⟨[.ref l],[]⟩) (GoodWG c t h d s1) s1:=by
 have rs:∀{vs:List Value}{f:List Int},IntsAre vs f->VRs s1.heap s1.heap [] (f.map .int) vs:=λ{vs f} q=>by
  induction q with
  | nil=>rfl
  | cons _ _ _ ih=>exact VRs.cons (VR.mkInt _ _) ih
 refine y callerA [] s1 [.ref l] j _ (PEnv.fn_mg m) ⟨⟨?_,?_,rfl⟩,⟨[],rfl,(λe z=>nomatch z)⟩,(⟨λb o e=>e,(λa k=>nomatch k),eV,rfl,(λi o e=>by simp at e)⟩:HR s1.heap [] [] s1.heap)⟩ ⟨_,[],rfl,?_,rfl⟩ (λv s' g=>?_) Acc.no
 ·show 1+claimMargin+n<de;unfold claimMargin de;exact z118 s
 ·show 4+8*n+200<cLine;unfold cLine;exact z119 s
 ·exact⟨l,vs,rfl,x,rs u⟩
 ·obtain⟨ι',H',av,p,r,rfl⟩:=g;cases r;refine GoodW.toG ⟨.inl ⟨_,.bool true,[],rfl,C,.bool true,B,λ_=>⟨eV,λa k=>nomatch k⟩⟩,λb o e=>p.hr.base b o e,p.same.2,p.same.1.trans A⟩
end
theorem post_true (l:OpenLaw) (a:List WData):l.row.claim.post a (.bool true) a=true :=
 postW_of (r:=l.row.toRowW) (X:=true) rfl (w_eq_bool (k:=true) (l:=true) (w_res rfl) w_lit) rfl
end Mine
namespace Mine
open PySem PyProof.Rows
variable {P:PEnv}{C:Ctx}{d:Nat}{loc:Loc}{H:Hp}{X:XP}
theorem y3:typeLookup (.type "object") "kept" = pure none:=by rw[gh,eM];kernel_rfl
theorem FJ:∀x∈kS,typeLookup (.type "object") x.1=pure none:=λx a=>by
 rcases yg a with rfl|a
 ·rw[gh,eM];kernel_rfl
 rcases yg a with rfl|a
 ·rw[gh,eM];kernel_rfl
 rcases yg a with rfl|a
 ·rw[gh,eM];kernel_rfl
 rcases yg a with rfl|a
 ·rw[gh,eM];kernel_rfl
 rcases yg a with rfl|a
 ·rw[gh,eM];kernel_rfl
 ·cases a
theorem FZ:∀x∈kS,(x.1 == ("kept" : Str))=false:=λx a=>by
 rcases yg a with rfl|a
 ·decide
 rcases yg a with rfl|a
 ·decide
 rcases yg a with rfl|a
 ·decide
 rcases yg a with rfl|a
 ·decide
 rcases yg a with rfl|a
 ·decide
 ·cases a
theorem ClsG.inst {B:Heap}(ok:P.OK) (c:ClsG P){a e:Addr}(o:OAt P.B a e):∃C N mN,ClsAt P.B C N mN/\mN "__getattribute__" = none/\mN "__getattr__" = none/\mN "kept" = none/\P.B.Inst a C (atName (.ref e)) /\
  ∀x∈kS,∃f o fd,mN x.1=some (.ref f)/\P.B.get? f=some o/\o.cls=.type "function" /\ o.data=.func fd/\P.fn x.2=some (.ref f):=by
 refine lG (c.ex) λC N mN h i j k d=>?_;refine c7 (d) λl n=>?_;clear d;refine c7 (o) λb _=>?_;clear o;refine eX (b) λC' m k1 k2 k3=>?_;clear b;have:=s_ k1 ok.g;subst this;have:=gD (yj (h.symm.trans k2));subst this;exact⟨C,N,mN,i,j,k,l,k3,n⟩
structure AttForm (o:Expr) (name:Str) (pos:Pos):Prop where
 he:∀env,eval (.Attribute o name pos) env=(do
   let ov <-eval o env
   standAt pos.atName
   let r <-holding [ov] (getAttr ov name true)
   letTemporaryGo o ov r
   pure r)
theorem AU {o:Expr}{pos:Pos}{Q:PQ}(ok:P.OK) (c:ClsG P) (I:AttForm o "kept" pos) (h:EvOK P C d o loc H (λx n=>∃k,x=.obj k/\Q (.ref k) n) X):EvOK P C d (.Attribute o "kept" pos) loc H Q X:=λA E env ι s w e a=>by refine Attribute_any_ (gv (h A E env ι s w e a) (λv s1 ι1 n x p1 u g=>?_)) (I.he env);refine aK (g) λk l q=>?_;clear g;subst l;refine eX (u) λb r m y K=>?_;clear u;subst m;refine lG (ClsG.inst (B:=P.B) ok c K) λC' N mN p z L D j=>?_;refine c7 (j) λF _=>?_;clear j;obtain⟨J,g,d,t,os⟩:=s1;have st:∀b o,P.B.get? b=some o->J.get? b=some o:=p1.hr.base;refine pU ((p.keeps st).obj) λnm M bs sn sub i=>?_;refine pF (i) λcol dd k0 k1 f=>?_;clear i;refine mJ (f) λk2 k3 k5 G=>?_;clear f;refine load_attr G (p.keeps st).ns z D y3 (F.keeps st) (v:=.ref r) rfl rfl ?_;exact Gives.before p1 (Gives.now _ p1.hr (by exact⟨r,rfl,y⟩) q)
theorem yv {x:Str×Str}(l:x∈kS) (ok:P.OK) (c:ClsG P){ι:List Addr}{s:Shared}{k:Nat}{v:Value}{A:Around}{E:Value->Shared->Prop}{pl:Sem Bool}{Q:Value×List Value->Shared->Prop}(D:HR P.B ι H s.heap) (r:VR P.B s.heap ι (.obj k) v)
  (h:∀f o fd,P.B.get? f=some o->o.data=.func fd->P.fn x.2=some (.ref f)->Q (.ref f,[v]) s):aP (model P.prog P.w) A (getMethod v x.1 pl) Q E s:=by
 refine eX (r) λb O j L F=>?_;clear r;subst j;refine lG (ClsG.inst (B:=P.B) ok c F) λC' N mN m p q M i=>?_;refine c7 (i) λu y=>?_;clear i;obtain⟨C,g,d,t,os⟩:=s;have st:∀b o,P.B.get? b=some o->C.get? b=some o:=D.base;refine pU ((m.keeps st).obj) λnm R bs sn sub e=>?_;refine pF (e) λcol dd k0 k1 a=>?_;clear e;refine mJ (a) λk2 k3 k5 z=>?_;clear a;refine lG (y x l) λf o fd G n I J K=>?_;refine method_of z (m.keeps st).ns p q G (st _ _ n) I (FJ x l) (u.keeps st) ?_ (h f o fd n J K);have:=FZ x l;simp only[beq_eq_false_iff_ne] at this;exact if_neg this
theorem Ct {x:Str×Str}(u:x∈kS) (ok:P.OK) (c:ClsG P){o:Expr}{b pos:Pos}{pl:Env->Sem Bool}{Q:PQ}
  (h:EvOK P C d o loc H (λy l=>(∃k,y=.obj k)/\g6 P d x.2 [y] l Q X) X)
  (t:∀env,eval (.Call (.Attribute o x.1 b) [] [] pos) env=(do
   let ov <-eval o env
   standAt b.atName
   let (f,first) <-holding [ov] (getMethod ov x.1 (pl env))
   callWith pos f first (backTo pos (bD [] env)) [])) :
  EvOK P C d (.Call (.Attribute o x.1 b) [] [] pos) loc H Q X:=λA E env ι s w e a=>by
 refine MethodCall_ (gv (h A E env ι s w e a) (λv s1 ι1 l y p1 m g=>?_)) (t env);refine c7 (g) λi q=>?_;clear g;refine cG (i) λk j=>?_;clear i;subst j;refine yv u ok c p1.hr m λf o fd n p r=>?_;refine callWith_meth0 p (p1.hr.base _ _ n) (kH (q A ι1 s1 [v] f _ r (w.step p1) ⟨_,_,rfl,m,rfl⟩ (λv s' gv=>gv.before p1) (a.step p1)))
theorem ww {x:Str×Str}(I:x∈kS) (ok:P.OK) (c:ClsG P){o:Expr}{b pos:Pos}{i:Expr}{es:List Expr}{pl:Env->Sem Bool}{Q:PQ}
  (h:EvOK P C d o loc H (λy p=>(∃k,y=.obj k)/\lH P C d (i::es) loc p (λj r=>g6 P d x.2 (y::j) r Q X) X) X)
  (F:∀env,eval (.Call (.Attribute o x.1 b) (i::es) [] pos) env=(do
   let ov <-eval o env
   standAt b.atName
   let (f,first) <-holding [ov] (getMethod ov x.1 (pl env))
   callWith pos f first (backTo pos (bD (i::es) env)) []))
  (G:∀env,bD (i::es) env=(false,eval i env)::bD es env) :
  EvOK P C d (.Call (.Attribute o x.1 b) (i::es) [] pos) loc H Q X:=λA E env ι s w e a=>by
 refine MethodCall_ (gv (h A E env ι s w e a) (λv s1 ι1 p y p1 t g=>?_)) (F env);refine c7 (g) λm q=>?_;clear g;refine cG (m) λk n=>?_;clear m;subst n;refine yv I ok c p1.hr t λf o fd u z D=>?_;refine callWith_meth (h₀:=P.B) z u (gll (q A E env ι1 s1 pos (w.step p1) (e.step w.hr p1) (a.step p1)) (λvs K ι2 r l p2 J g=>?_)) (G env);refine⟨p2.hr.base,kH (g A ι2 K (v::vs) f _ D ((w.step p1).step p2) ⟨_,_,rfl,p2.vr p1.hr t,J⟩ (λv s' gv=>(gv.before p2).before p1) ((a.step p1).step p2))⟩
noncomputable def kAtt (Q:PQ):PQ:=λx H=>match x with|.obj k=>Q (.ref k) H|_=>False
theorem kAtt.ex {Q:PQ}{x:AV}(h:kAtt Q x H):∃k,x=.obj k/\Q (.ref k) H:=by
 cases x with
 | obj k=>exact⟨k,rfl,h⟩
 | _=>exact h.elim
noncomputable def kMc2 (Φ:Fun) (f:Str) (x:AV) (Q:PQ):PL:=λvs H=>Φ f (x::vs) H Q
noncomputable def kMc1 (Φ:Fun) (f:Str) (as:List ME) (loc:Loc) (Q:PQ):PQ:=λx H=>match x with|.obj k=>wpEs Φ as loc H (kMc2 Φ f (.obj k) Q)|_=>False
theorem kMc1.ex {f:Str}{as:List ME}{loc:Loc}{Q:PQ}{x:AV}(h:kMc1 Φ f as loc Q x H):(∃k,x=.obj k)/\wpEs Φ as loc H (kMc2 Φ f x Q):=by
 cases x with
 | obj k=>exact⟨⟨k,rfl⟩,h⟩
 | _=>exact h.elim
namespace ME
noncomputable def att (o:ME):ME:=λΦ loc H Q=>wpE Φ o loc H (kAtt Q)
noncomputable def mcl (f:Str) (o:ME) (as:List ME):ME:=λΦ loc H Q=>wpE Φ o loc H (kMc1 Φ f as loc Q)
end ME
theorem e_att {o:ME}{loc:Loc}{Q:PQ}:wpE Φ (.att o) loc H Q=wpE Φ o loc H (kAtt Q):=rfl
theorem e_mcl {f:Str}{o:ME}{as:List ME}{loc:Loc}{Q:PQ}:wpE Φ (.mcl f o as) loc H Q=wpE Φ o loc H (kMc1 Φ f as loc Q):=rfl
theorem k_att {Q:PQ}:kAtt Q (.obj k) H=Q (.ref k) H:=rfl
theorem k_mc1 {f:Str}{as:List ME}{loc:Loc}{Q:PQ}:kMc1 Φ f as loc Q (.obj k) H=wpEs Φ as loc H (kMc2 Φ f (.obj k) Q):=rfl
theorem k_mc2 {f:Str}{x:AV}{vs:List AV}{Q:PQ}:kMc2 Φ f x Q vs H=Φ f (x::vs) H Q:=rfl
variable {G:GT}{a b:ME}{x y:Expr}{pos:Pos}
theorem CE.att (d:CE G C a x) (c:AttForm x "kept" pos):CE G C (.att a) (.Attribute x "kept" pos):=⟨λ_ _=>rfl,λ_=>rfl,λ_ _=>rfl,λok b _ _ _ w =>
 .plain (AU ok.toOK ok.cls c ((d.snd ok b w).1.mono λx e w=>w.ex)) λ_ _=>rfl⟩
theorem CE.mcl0 {q:Str×Str}{b:Pos}(f:q∈kS) (e:CE G C a x) (d:MethForm x q.1 b pos []):CE G C (.mcl q.2 a []) (.Call (.Attribute x q.1 b) [] [] pos):=⟨λ_ _=>rfl,λ_=>rfl,λ_ _=>rfl,λok c _ _ _ w =>
 .plain (Ct f ok.toOK ok.cls (pl:=λenv=>do return (<-importBound _ env).getD true) ((e.snd ok c w).1.mono λx g w=>⟨w.ex.1,c _ _ _ _ w.ex.2⟩) d.he) λ_ _=>rfl⟩
theorem CE.mcl {q:Str×Str}{c:Pos}{as:List ME}(h:q∈kS) (g:CE G C a x) (e:CE G C b y) (i:CEs G C as xs) (f:MethForm x q.1 c pos (y::xs)):CE G C (.mcl q.2 a (b::as)) (.Call (.Attribute x q.1 c) (y::xs) [] pos):=⟨λ_ _=>rfl,λ_=>rfl,λ_ _=>rfl,λok d _ _ _ w =>
 .plain (ww h ok.toOK ok.cls (pl:=λenv=>do return (<-importBound _ env).getD true) ((g.snd ok d w).1.mono λx j w=>⟨w.ex.1,((CEs.cons e i).snd ok d w.ex.2).mono λvs k w=>d _ _ _ _ w⟩) f.he λenv=>e.star _ env) λ_ _=>rfl⟩
theorem ug:(("put", "Shelf.put"):Str×Str)∈kS:=.head _
theorem x6:(("told", "Shelf.told"):Str×Str)∈kS:=.tail _ (.head _)
theorem zr:(("numbers", "Shelf.numbers"):Str×Str)∈kS:=.tail _ (.tail _ (.head _))
theorem x5:(("slip", "Shelf.slip"):Str×Str)∈kS:=.tail _ (.tail _ (.tail _ (.head _)))
theorem xZ:(("drop", "Shelf.drop"):Str×Str)∈kS:=.tail _ (.tail _ (.tail _ (.tail _ (.head _))))
end Mine
namespace Mine
open PySem PyProof.Rows
variable {P:PEnv}{C:Ctx}{d:Nat}{loc:Loc}{H:Hp}{X:XP}
theorem C2 {i:Nat}{l:List (Int×AV)}{n:Nat}(hi:H[i]?=some (.dicE l n)):ItOK P (.ref i) H (l.map λp=>.int p.1) (λH'=>H'[i]?=some (.dicE l n)):=λA E ι s v Q W r h=>by
 refine aK r λa N I=>?_;subst N;refine c7 (W.dictE I hi) λU b=>?_;refine eT (b) λkvs O R hv=>?_;clear b;have len:∀{kvs:List (Int×Value)},kvs.map (·.1)=l.map (·.1)->kvs.length=l.length:=λq=>by simpa using congrArg eg q
 refine wpAny_pyIter_dict U O ?_;rw[len R];refine One.new (P:=P) (T := "dict_keyiterator") (At:=λk o=>o.cls=.type "dict_keyiterator" /\ o.data=.fields #[.ref a,.int k 0,.int l.length 0,.int n 0]) (Pre:=λι _=>ι[i]?=some a) h ⟨λk o z=>⟨z.1,pS z.2⟩,by decide,λι ι' S h h' q _ _ Z=>ou Z q,?_,?_,λA E s k Q q g=>wpAny_pyIter_keyiter q g⟩ ⟨rfl,rfl⟩ rfl I
 ·intro A E ι1 L s1 k x Q J f C F u K g;refine c7 (f.dictE F C) λ_ b=>?_;refine eT (b) λc e d D=>?_;clear b;rw[aq] at K;refine aK (yf K) λp V B=>?_;subst B;have G:(c.map (·.1))[k]?=some p.1:=by rw[d,aq,V];rfl
  rw[aq] at G;refine aK (yf G) λz X M=>?_;refine wpAny_pyNext_dict_item (knd:=intKind P.prog P.w) (kvs:=c) (k:=z.1) (v:=z.2) (by rw[len d];exact u) e X λY h' j m sb=>?_;refine cG (jP j) λt y=>?_;subst y;exact g _ h' s1.toks ⟨t,by rw[M]⟩ (by rw[len d] at m;exact m) sb
 ·intro A E ι1 L s1 Q J f C F u g;refine c7 (f.dictE F C) λ_ b=>?_;refine eT (b) λc e d D=>?_;clear b;rw[ya] at u;exact wpAny_pyNext_dict_end (knd:=intKind P.prog P.w) (kvs:=c) J (by rw[len d];exact u) e (eJ.mpr (bf (len d))) λh' x=>g h' s1.toks x
variable {G:GT}{a b:ME}{x y:Expr}{pos:Pos}
theorem CI.keys (d:CE G C a x):CI G C .keys [a] x :=
 ⟨d.folded,λok c _ _ _ w=>xr ((d.snd ok c w).1.mono λx h w=>by
  refine kM (w) λi l e b f g=>?_;clear w;subst b;exact⟨_,_,C2 f,g⟩)⟩
noncomputable def ddel (l:List (Int×AV)) (k:Int):List (Int×AV):=l.filter λp=>!decide (p.1=k)
theorem GV {k:Int}{l:List (Int×AV)}:∀{kvs:List (Int×Value)},kvs.map (·.1)=l.map (·.1)->VRs B h ι (l.map (·.2)) (kvs.map (·.2)) ->
  (without kvs k).map (·.1)=(ddel l k).map (·.1)/\VRs B h ι ((ddel l k).map (·.2)) ((without kvs k).map (·.2)):=by
 induction l with
 | nil=>intro kvs c hv;cases kvs with
  | nil=>exact⟨rfl,rfl⟩
  | cons _ _=>cases c
 | cons y l ih=>intro kvs c hv;cases kvs with
  | nil=>cases c
  | cons z kvs =>
   have e:=fq c;have b:z.1=y.1:=e.1;refine eX hv λj m f g rr=>?_;have d:=fq f;have i:=ih e.2 (d.2▸rr);unfold without ddel at i ⊢
   by_cases a:y.1=k
   ·rw[f9 (by simp[b,a]),f9 (by simp[a])];exact i
   ·rw[f8 (by simp[b,a]),f8 (by simp[a])];exact⟨by rw[aF,aF,i.1,b],VRs.cons (show VR B h ι y.2 z.2 from(show z.2=j from d.1)▸g) i.2⟩
theorem FY {l:List (Int×AV)}(hi:H[i]?=some (.dict l)):qS P (.ref i) H "pop" "dict.pop" := λA E ι s v pl Q e r h=>by refine aK (r) λa b d=>?_;subst b;refine aK (e.dict d hi) λkvs c _=>?_;exact getMethod_builtin c.typeIs PySem.F.plainAttrs_dict PySem.F.slot_dict_pop PySem.F.type_dict_pop c.mapOf.noDict h
theorem CH {l:List (Int×AV)}{k:Int}{x:AV}{Q:PQ}(hi:H[i]?=some (.dict l)) (r:l.length<=ag) (y:dget l k=some x) (h:Q x (H.set i (.dict (ddel l k)))) :
  OpOK P d (λvs=>call (.builtin "dict.pop") vs) [.ref i,.int k] H Q:=fn2 λA E ι s u v w G I=>by
 refine aK (G) λa c f=>?_;subst c;refine cG (I) λt c=>?_;subst c;refine eT (w.hr.dict f hi) λkvs m j hv=>?_;have n:a∈ι:=yc f;have e:kvs.length=l.length:=by have:=congrArg eg j;simpa using this
 refine aK ((rA (k:=k) j hv).1 x y) λz B J=>?_;refine call_meetsIn PySem.F.slot_dict_pop m.typeIs PySem.F.entry_dict_pop (PySem.F.args_dict_pop_2 _ _) (meets_dict_pop_there (intKind P.prog P.w) a (k:=k) (by simp[intKind,gF]) [] (.inl rfl) rfl) ⟨kvs,z,m,by exact le_of_eq_of_le e r,B,λh' g K=>?_⟩;have p2:∀b o,b≠a->s.heap.get? b=some o->h'.get? b=some o:=λb o q p=>K.extBut b o q p;refine c7 (GV (k:=k) j hv) λC D=>?_;exact⟨ι,_,x,Post.upd (t:=s.toks+1) w.hr f p2 (o:=.dict (ddel l k)) (OR.ofDict (ry w.hr f hi) g C (w.hr.vrs_upd n p2 D)),w.hr.vr_upd n p2 J,h⟩
def isDc (H:Hp) (x:AV):Prop:=∃i l,x=.ref i/\H[i]?=some (.dict l)
noncomputable def kDp2 (x:AV) (Q:PQ):PQ:=λy H=>∃i l k z,x=.ref i/\H[i]?=some (.dict l)/\y=.int k/\l.length<=ag/\dget l k=some z/\Q z (H.set i (.dict (ddel l k)))
noncomputable def kDp1 (Φ:Fun) (b:ME) (loc:Loc) (Q:PQ):PQ:=λx H=>isDc H x/\wpE Φ b loc H (kDp2 x Q)
noncomputable def ME.dpop (o b:ME):ME:=λΦ loc H Q=>wpE Φ o loc H (kDp1 Φ b loc Q)
theorem e_dpop {o b:ME}{loc:Loc}{Q:PQ}:wpE Φ (.dpop o b) loc H Q=wpE Φ o loc H (kDp1 Φ b loc Q):=rfl
theorem CE.dpop {c:Pos}(u:CE G C a x) (j:CE G C b y) (s:MethForm x "pop" c pos [y]):CE G C (.dpop a b) (.Call (.Attribute x "pop" c) [y] [] pos):=⟨λ_ _=>rfl,λ_=>rfl,λ_ _=>rfl,λok d _ _ _ w =>
 .plain (xz (pl:=λenv=>do return (<-importBound _ env).getD true) ((u.snd ok d w).1.mono λx A w=>by
  refine c7 (w) λe m=>?_;clear w;refine kB (e) λi l g t=>?_;clear e;subst g;revert m;intro w;exact⟨"dict.pop",FY t,uN ((j.snd ok d w).1.mono λv H' w=>uh (by
   refine te (w) λB D k z n o h f=>?_;clear w;subst h;refine fT (f) λp q r=>?_;clear f;cases n;exact CH o p q r)) λenv=>j.star _ env⟩) s.he (λenv=>j.star _ env) (CEs.nil (G:=G) (C:=C)).plain) λ_ _=>rfl⟩
theorem GF {f:Str}{a:List AV}{l:List (Int×AV)}{Q:PQ}(hi:H[i]?=some (.dict l)) (h:∀n,g6 P d f a (H.set i (.dicE l n)) (λv H'=>H'[i]?=some (.dicE l n)/\Q v (H'.set i (.dict l))) X):g6 P d f a H Q X :=
 λA ι s vs b R e w r c j=>by refine cG (w.hr.freeze hi) λn k=>?_;refine h n A ι s vs b R e ⟨w.room,w.fr,k⟩ r (λv s' g=>?_) j;obtain⟨ι',H',av,p,q,m,o⟩:=g;exact c v s' ⟨ι',_,av,⟨p.pre,p.hr.thaw m,p.kept,p.new,p.same⟩,q,o⟩
end Mine
namespace Mine
open PySem
theorem yy {k:Int}{n:Nat}(a:0<=k) (b:k<n):place k n=some k.toNat:=by unfold place;rw[if_pos a,if_pos b]
theorem log2_lt {n:Nat}(h:n<2^k) (b:0<k):n.log2<k:=by
 by_cases a:n=0
 ·subst a;simpa using b
 ·exact(Nat.log2_lt a).mpr h
theorem td (h:a.natAbs<2^k):Builtin.Int.intBits a<=k:=by
 unfold Builtin.Int.intBits;split
 ·exact cX _
 ·rename_i c;have b:0<k:=by
   rcases fZ k with rfl|b
   ·simp at h;simp[h] at c
   ·exact b
  exact log2_lt h b
theorem oU (h:a.natAbs<2^64):IntMulOk a b:=IntMulOk.of_left (td h)
theorem zp (h:b.natAbs<2^64):IntMulOk a b:=IntMulOk.of_right (td h)
theorem noPy (h:b.natAbs<2^9000):NoPy a b:=by
 unfold NoPy Builtin.divisionGoesByPylong;simp only[gt_iff_lt,Bool.and_eq_false_imp,decide_eq_true_eq];intro c;exfalso;split at c
 ·exact Nat.not_succ_le_zero 300 c
 ·have:=log2_lt h (by exact Nat.zero_lt_succ 8999);exact z120 c this
theorem mq (h:b.natAbs<2^64):NoPy a b:=noPy (ah h (jf (by decide) (by decide)))
theorem gP (h:0<=b):a.fmod b=a%b:=Int.fmod_eq_emod_of_nonneg a h
theorem jv (h:0<=b):a.fdiv b=a/b:=Int.fdiv_eq_ediv_of_nonneg a h
theorem sz2 {a b:AV}:[a,b].length<=ag:=by simp[ag]
theorem st2 {a b:AV}:[a,b].length<=1000:=by simp
theorem su2 {a b:AV}:[a,b].length<2^62:=by simp
theorem st3 {a b c:AV}:[a,b,c].length<=1000:=by simp
theorem su3 {a b c:AV}:[a,b,c].length<2^62:=by simp
theorem st4 {a b c d:AV}:[a,b,c,d].length<=1000:=by simp
end Mine
namespace Mine
open PySem
theorem set0 {α:Type}{a b:α}{l:List α}:(a::l).set 0 b=b::l:=rfl
theorem setS {α:Type}{a b:α}{l:List α}{n:Nat}:(a::l).set (n+1) b=a::l.set n b:=rfl
theorem mapC {α β:Type}{f:α->β}{a:α}{l:List α}:(a::l).map f=f a::l.map f:=rfl
theorem mapN {α β:Type}{f:α->β}:([]:List α).map f=[]:=rfl
theorem appC {α:Type}{a:α}{l m:List α}:(a::l)++m=a::(l++m):=rfl
theorem appN {α:Type}{l:List α}:[]++l=l:=rfl
theorem repS {α:Type}{a:α}{n:Nat}:am (n+1) a=a::am n a:=rfl
theorem repZ {α:Type}{a:α}:am 0 a=[]:=rfl
theorem sAc {i:Nat}{v:AV}{r:List (Nat×AV)}{loc:Loc}:nf ((i,v)::r) loc=nf r (loc.set i (some v)):=rfl
theorem sAn {loc:Loc}:nf [] loc=loc:=rfl
theorem zipC {α β:Type}{a:α}{b:β}{l:List α}{m:List β}:(a::l).zip (b::m)=(a,b)::l.zip m:=rfl
theorem zipN {α β:Type}{l:List β}:([]:List α).zip l=[]:=rfl
theorem zipM {α β:Type}{l:List α}:l.zip ([]:List β)=[]:=by cases l<;>rfl
noncomputable def lst:=And.intro @set0 <| And.intro @setS <| And.intro @mapC <| And.intro @mapN <| And.intro @appC <| And.intro @appN <| And.intro @repS <| And.intro @repZ <| And.intro @sAc <| And.intro @sAn <| And.intro @zipC <| And.intro @zipN <| And.intro @zipM <| And.intro bC bT
theorem all0 {P:List Value->Prop}(h:P []):∀vals:List Value,vals.length=0->P vals:=λvals e=>by rw[kK e];exact h
theorem all1 {P:List Value->Prop}(h:∀a,P [a]) (vals:List Value) (e:vals.length=1):P vals:=by
 cases vals with
 | nil=>cases e
 | cons a r=>exact all0 (P:=λl=>P (a::l)) (h a) r (j8 e)
theorem all2 {P:List Value->Prop}(h:∀a b,P [a,b]) (vals:List Value) (e:vals.length=2):P vals:=by
 cases vals with
 | nil=>cases e
 | cons a r=>exact all1 (P:=λl=>P (a::l)) (h a) r (j8 e)
end Mine
namespace Mine
open PySem PySem.W PyProof.Rows
variable {P:PEnv}{C:Ctx}{d:Nat}{loc:Loc}{H:Hp}{X:XP}
theorem XLeft.post {l:List Env}{H':Hp}{base:Heap}(x:XLeft B l [] ι s ι' H' base s'):Post B ι s ι' H' s' :=
 ⟨x.pre,x.hr.keep x.stays,x.kept,x.new,x.same⟩
theorem XLeft.wide {l:List Env}{H':Hp}{base:Heap}(x:XLeft B l [] ι s ι' H' base s'):XLeft B l S ι s ι' H' base s' :=
 ⟨x.pre,x.hr,x.stays,x.kept.mono λ_ h=>yp (.inr h),λa o e c b=>x.inb a o e (λm=>c (yp (.inr m))) b,x.new,x.same⟩
theorem XLeft.beforeS {l:List Env}{k:Shared}{r h:Hp}{base:Heap}(p:PostS B S ι s ι1 r s1) (x:XLeft B l S ι1 s1 ι2 h base k) (t:∀a∈S,a∉ι2):XLeft B l S ι s ι2 h base k:=by
 have out:∀a o,s.heap.get? a=some o->a∉S++ι->a∉S++ι1:=λa o e b q=>(yd q).elim (λm=>b (yp (.inl m))) λm =>
  (p.new a m).elim (λz=>b (yp (.inr z))) λz=>by rw[e] at z;cases z
 refine⟨p.pre.trans x.pre,x.hr,x.stays,λa o e b=>?_,λa o e b u=>?_,λa i=>?_,?_⟩
 ·refine aK (p.kept a o e b) λn f j=>?_;refine aK (x.kept a _ f (out a o e b)) λd g v=>?_;exact⟨d,g,λc=>(v c).trans (j c)⟩
 ·refine aK (p.kept a o e b) λn f j=>?_;refine cG (x.inb a _ f (out a o e b) u) λd g=>?_;exact⟨d,g⟩
 ·by_cases hi:a∈ι
  ·exact .inl hi
  ·right;rcases x.new a i with q|q
   ·exact(p.new a q).resolve_left hi
   ·cases e:s.heap.get? a with
    | none=>rfl
    | some o =>
     refine aK (p.kept a o e λm=>(yd m).elim (λz=>t a z i) hi) λn f _=>?_;rw[f] at q;cases q
 ·exact⟨x.same.1.trans p.same.1,x.same.2.trans p.same.2⟩
theorem XAcc.step {j:Hp}{Q:MFlow->Loc->Hp->Prop}(x:XAcc P C A env ι s Q E) (p:PostS P.B (own C env) ι s ι1 j s1):XAcc P C A env ι1 s1 Q E:=by
 intro l k e s' ι' H' a c n i m;refine x l k e s' ι' H' a c ?_ i m;rcases n with⟨b,base,D,d,f,g,h⟩|⟨b,base,D,d,f,g,h⟩
 ·exact .inl ⟨b,base,D,d,f,g.beforeS p i.offOwn,h⟩
 ·exact .inr ⟨b,base,D,d,f,g.beforeS p i.offOwn,h⟩
theorem XAcc.acc {Q:MFlow->Loc->Hp->Prop}(x:XAcc P C A env ι s Q E) (k:HR P.B ι H s.heap) (e:EnvR P.B C env ι s.heap loc):Acc P A (λc H'=>Q (.exc c) loc H') ι s E:=by rintro l i b s' ι' H' c ⟨d,base,D,f,g,a,h⟩ j;exact x l i b s' ι' H' loc c (.inl ⟨d,base,D,f,g,a.wide,h⟩) (e.step k a.post) j
theorem El {Q:MFlow->Loc->Hp->Prop}(h:Q .next loc H):ExsX P C d [] loc H Q:=(xB h).x
theorem FO {st:Stmt}{i:List Stmt}{Q:MFlow->Loc->Hp->Prop}
  (h:ExX P C d st loc H (λk a H'=>match k with|.next=>ExsX P C d i a H' Q|k=>Q k a H')):ExsX P C d (st::i) loc H Q:=λA E env ι s w e o p=>by
 refine dM (gs (h A E env ι s w e o λl y q s' ι' H' a c B t z=>p l y q s' ι' H' a c B t z) (λf s1 ι1 n b k p1 j m g=>?_));cases k with
 | next =>
  cases m;exact aD (g A E env ι1 s1 (w.stepS e p1 j) j o (p.step p1)) (λ_ _ g=>g.before p1) λ_ _ x=>x
 | brk=>cases m;exact⟨ι1,n,b,.brk,p1,j,rfl,g⟩
 | cont=>cases m;exact⟨ι1,n,b,.cont,p1,j,rfl,g⟩
 | ret v=>obtain⟨u,rfl,r⟩:=m;exact⟨ι1,n,b,.ret v,p1,j,⟨u,rfl,r⟩,g⟩
 | exc c=>exact m.elim
theorem A5 {t:Expr}{a b:List Stmt}{Q:MFlow->Loc->Hp->Prop}(h:TsOK P C d t loc H (λc H'=>if c then ExsX P C d a loc H' Q else ExsX P C d b loc H' Q) XF):ExX P C d (.If t a b pos) loc H Q:=λA E env ι s w e f i=>by
 refine wpAny_If (gb (h A E env ι s w e Acc.no) (λc s1 ι1 j p1 g=>?_));cases c with
 | true=>exact aD (g A E env ι1 s1 (w.step p1) (e.step w.hr p1) f (i.step p1.toS)) (λ_ _ g=>g.before p1.toS) λ_ _ x=>x
 | false=>exact aD (g A E env ι1 s1 (w.step p1) (e.step w.hr p1) f (i.step p1.toS)) (λ_ _ g=>g.before p1.toS) λ_ _ x=>x
theorem Cv {x:Str}{v:Expr}{a:Pos}{Q:MFlow->Loc->Hp->Prop}(h:EvOK P C d v loc H (λ_ _=>False) (λc H'=>Q (.exc c) loc H'))
  (b:∀env:Env,env.scope.kind=.function->env.scope.names=C.names->dQ v (some (.Name x a)) pos.line env=pure false):ExX P C d (.Assign [.Name x a] v pos) loc H Q:=λA E env ι s w e i f=>by
 refine gH (aD (h A E env ι s w e (f.acc w.hr e)) (λu s1 g=>?_) λ_ _ x=>x) (b env e.kind e.names);obtain⟨_,_,_,_,_,g⟩:=g;exact g.elim
theorem Cx {x:Expr}{Q:MFlow->Loc->Hp->Prop}(h:EvOK P C d x loc H (λ_ _=>False) (λc H'=>Q (.exc c) loc H')):ExX P C d (.Return (some x) pos) loc H Q:=λA E env ι s w e b a=>by rw[gZ];refine ad (fG (ad (aD (h A E env ι s w e (a.acc w.hr e)) (λv s1 g=>?_) λ_ _ x=>x)));obtain⟨_,_,_,_,_,g⟩:=g;exact g.elim
theorem sY {A:Around}{ι:List Addr}{h:Heap}{l:List Env}(a:qu A P.B h ι) (b:A.frames=some l):∀env∈l,env.scope.kind≠.module/\∃L o,env.frame=some L/\P.B.get? L=none/\h.get? L=some o/\(∃es n,o.data=.dict es n)/\L∉ι:=by refine aK (a) λc e q=>?_;clear a;rw[b] at e;cases e;exact q
theorem zE {h:Heap}:∀{l:List Env}{as:List Addr},(∀env∈l,env.scope.kind≠.module/\∃L o,env.frame=some L/\h.get? L=some o/\(∃es n,o.data=.dict es n)/\L∈as)->h.FunFrames (hideAll h as) l
 | [],_,_=>trivial
 | env::l,as,q=>by refine c7 (q env (aR ..)) λk a=>?_;refine m9 (a) λL o e f b i=>?_;clear a;refine kA (b) λes n g=>?_;clear b;exact⟨k,⟨L,o,e,hideAll_none _ i,f,λvs z=>by rw[g] at z;cases z⟩,zE λd c=>q d (yi _ c)⟩
theorem HR.hide {B:Heap}{ι:List Addr}{H:Hp}{h:Heap}(q:HR B ι H h){as:List Addr}(f:∀L∈as,B.get? L=none/\L∉ι/\∃o es n,h.get? L=some o/\o.data=.dict es n):HR B ι H (hideAll h as):=by
 have s:Kept as h (hideAll h as):=λa o e p=>⟨o.slots,hideAll_get _ e p,λ_=>rfl⟩;have u:kD as h:=λa m vs t=>by refine fT (f a m) λ_ _ c=>?_;refine nS (c) λo es n e dd=>?_;clear c;refine eT (t) λo' j _ d=>?_;clear t;refine cG (d) λv g=>?_;clear d;rw[e] at j;cases j;rw[dd] at g;cases g
 refine⟨λb o e=>hideAll_get _ (q.base b o e) (λm=>by rw[(f b m).1] at e;cases e),q.fresh,q.nodup,q.len,λi o e=>?_⟩;refine aK (q.objs i o e) λa k r=>?_;exact⟨a,k,r.mono s u (af _) λy l=>hideAll_get _ l λm=>(f a m).2.1 (yc k)⟩
theorem FM {x:Str}{D:Addr}{B i p:String}{bm:List Value}{np f pos:Pos}{I:Expr}{es:List Expr}{Q:MFlow->Loc->Hp->Prop}(ok:P.OK) (O:OwnCls x D bm i P.mg P.B) (X:ExcBaseFacts B i p bm)
  (hk:C.names.lookup x=some .globalImplicit) (hd:(x == ("__debug__" : Str))=false) (he:∀env,bD (I::es) env=(false,eval I env)::bD es env) (hp:pQ es)
  (h:lH P C d (I::es) loc H (λvs H'=>vs.length<=ag/\Q (.exc x) loc H') XF):ExX P C d (.Raise (some (.Call (.Name x np) (I::es) [] f)) none pos) loc H Q:=λA E env ι s w e tp xa=>by
 refine pU (O.obj) λtl N nm q bs c=>?_;refine pF (c) λhdct sn sub ab G=>?_;clear c;refine pU (G) λcol dd k0 k1 k2 c=>?_;clear G;refine oX (c) λk3 k5 mN hC hN V T=>?_;clear c;refine wpAny_Raise_call_subT (C:=D) (nm:=nm) (q:=q) (N:=N) (bs:=bs) (bm:=tl) (hdct:=hdct) (sn:=sn) (sub:=sub) (ab:=ab) (col:=col) (dd:=dd) (k0:=k0) (k1:=k1) (k2:=k2) (k3:=k3) (k5:=k5)
  X (mN:=mN) (T.hasType X.hasBase) w.room.handled (by rw[he];show(false||(backTo f (bD es env)).any (·.1))=false;rw[hp env f];rfl) V
  (bk e.kind (by unfold cC;rw[e.names];exact hk) (dh (e.glob▸ok.g.keeps λb o e=>w.hr.base b o e) O.bound ⟨rfl,?_⟩) hd)
 have ha:=h A E env ι s f w e Acc.no;rw[he] at ha ⊢;refine Calls.evalArgs_plain (aD ha (λvs r g=>?_) λ_ _ y=>y);obtain⟨ι2,M,l2,p2,r2,F,hq⟩:=g;have W:∀b o,P.B.get? b=some o->r.heap.get? b=some o:=λb o u=>p2.hr.base b o u;refine⟨rfl,by rw[r2.length];exact F,W _ _ hC,hN.keeps W,T.keeps W,λh' ea U=>?_⟩;obtain⟨l,K⟩:∃l,A.frames=some l:=let ⟨_,l,K⟩:=tp;⟨_,K⟩;have Y:=sY (w.step p2).fr K;have fin:∀L∈fAs l,P.B.get? L=none/\L∉ι2/\∃o es n,r.heap.get? L=some o/\o.data=.dict es n:=λL hL=>by refine aK (cz.mp hL) λJ m z=>?_;refine c7 (Y J m) λ_ j=>?_;refine mI (j) λL' o v Z R c h5=>?_;clear j;refine kA (c) λes n S=>?_;clear c;rw[z] at v;cases v;exact⟨Z,h5,o,es,n,R,S⟩
 have p3:Post P.B ι2 r ι2 M { r with heap:=h' }:=Post.keep (t:=r.toks) p2.hr U.keeps;have pp:=p2.trans p3;have xl:XLeft P.B l [] ι s ι2 M (hideAll r.heap (fAs l)) { r with heap:=h' } :=
  ⟨p2.pre,p2.hr.hide fin,λb o u=>U.keeps b o (of_hideAll _ u),pp.kept,λa o eo hn hf=>by
   refine aK (p2.kept a o eo hn) λsl e1 _=>?_;exact⟨sl,hideAll_get _ e1 hf⟩,p2.new,p2.same⟩
 exact xa l K _ _ ι2 M loc x (.inr ⟨ea,_,D,rfl,O.bound,xl.wide,.inl ⟨r.heap,vs,λb o u=>of_hideAll _ u,zE λJ m=>by
  refine c7 (Y J m) λk j=>?_;refine mI (j) λL o v Z R S h5=>?_;clear j;exact⟨k,L,o,v,R,S,cz.mpr ⟨J,m,v⟩⟩,U⟩⟩) (e.step w.hr pp) hq
end Mine
namespace Mine
open PySem PySem.W PyProof.Rows
variable {P:PEnv}{C:Ctx}{d:Nat}{loc:Loc}{H:Hp}{X:XP}
def pN (P:PEnv) (c T:Str):Prop:=∃D Tc,P.mg c=some (.ref D)/\P.mg T=some Tc/\∀(M:Model) (h:Heap) (ea:Addr) (o:Obj),P.B.StaysIn h->h.get? ea=some o->o.cls=.ref D->Looks M h (excMatches (.ref ea) Tc) true
structure SuG (P:PEnv) (L:Addr) (ys:List Str) (m:Str->Option Value) (R:MFlow->Hp->Hp->Prop) (s:Shared) (f:Flow) (s':Shared):Prop where
 same:∃h t,s'={ s with heap:=h,toks:=t }
 ns:∃m',s'.heap.Ns L m'/\∀z,z∉ys->m' z=m z
 keep:∀b o,b≠L->s.heap.get? b=some o->s'.heap.get? b=some o
 res:∀ι H,HR P.B ι H s.heap->L∉ι->∃ι₂ H₂ fl,ι<+:ι₂/\HR P.B ι₂ H₂ s'.heap/\(∀a∈ι₂,a∈ι\/s.heap.get? a=none)/\FR P.B s'.heap ι₂ fl f/\R fl H H₂
def r9 (P:PEnv) (C:Ctx) (d:Nat) (n:Str) (ys:List Str) (suite:List Stmt) (c:Str) (R:MFlow->Hp->Hp->Prop):Prop :=
 ∀A E env s ea o D m,A.depth+d<de->A.units+8*d+200<cLine->env.scope.kind=.function->env.scope.names=C.names->env.globals=dA->env.builtins=builtinsNs->s.heap.Ns env.locals m->m n=some (.ref ea) ->
  P.B.StaysIn s.heap->P.B.get? env.locals=none->s.heap.get? ea=some o->o.cls=.ref D->P.mg c=some (.ref D)->A.handled=some (.ref ea) ->
  aP (model P.prog P.w) A (execs suite env) (SuG P env.locals ys m R s) E s
def ExsA (P:PEnv) (C:Ctx) (d:Nat) (body:List Stmt) (loc:Loc) (H:Hp) (Q:MFlow->Loc->Hp->Prop) (X:XP):Prop :=
 ∀A E env ι s,W P.B A d ι H s->EnvR P.B C env ι s.heap loc->Acc P A X ι s E->aP (model P.prog P.w) A (execs body env) (GivesS P.B C env ι s Q) E s
theorem FR.mono (x:Kept S h h') (b:kD S h){a:MFlow}{f:Flow}(q:FR B h ι a f):FR B h' ι a f:=by
 cases a with
 | ret v=>exact aK q λu e r=>⟨u,e,VR.mono x b (af _) _ _ r⟩
 | _=>exact q
theorem yH {A:Around}{base j:Heap}{l:List Env}{H':Hp}(v:∀p∈env::l,p.scope.kind≠.module/\∃L o,p.frame=some L/\B.get? L=da/\s.heap.get? L=some o/\(∃es n,o.data=.dict es n)/\L∉ι) (k:XLeft B (env::l) [] ι s ι' H' base s1)
  (up:∀a o,s1.heap.get? a=some o->a≠env.locals->(∀vs,o.data≠.fields vs)->∃d,j.get? a=some { o with slots:=d }) (x:∀b o,base.get? b=some o->j.get? b=some o) (a:Addr) (o:Obj) (i:s.heap.get? a=some o) (w:a≠env.locals) (g:a∉ι) :
  ∃d,j.get? a=some { o with slots:=d }/\((∀es n,o.data≠.dict es n)->d=o.slots):=by
 refine aK (k.kept a o i g) λd m z=>?_
 by_cases f:a∈fAs (env::l)
 ·refine kA (uj (A:=A) v a f o i) λes y r=>?_;refine(up a _ m w λvs q=>by rw[show({ o with slots:=d }:Obj).data=o.data from rfl,r] at q;cases q).elim λe h=>⟨e,h,λc=>absurd r (c es y)⟩
 ·refine(k.inb a o i g f).elim λe h=>?_;have t:=yj (m.symm.trans (k.stays a _ h));have u:d=e:=congrArg Obj.slots t;subst u;exact⟨d,x a _ h,z⟩
theorem Cy {tp aa pos:Pos}{body:List Stmt}{T n:Str}{b0:Stmt}{O:List Stmt}{ys:List Str}{Q:MFlow->Loc->Hp->Prop}
  (ok:P.OK) (hk:C.names.lookup T=some .globalImplicit) (hd:(T == ("__debug__" : Str))=false) (hn:C.names.lookup n=some .local) (ni:∀y∈n::ys,∀(i:Nat) (dd:AV),C.vars[i]?=some (some y)->loc[i]?≠some (some dd)) (nn:n∉ys)
  (hx:ExsA P C d body loc H (λS l' H'=>S≠.next/\Q S l' H') X)
  (hX:∀c H',X c H'->pN P c T/\∃R,r9 P C d n ys (b0::O) c R/\∀S H2,R S H' H2->Q S loc H2) :
  ExX P C d (.Try body [.ExceptHandler (some (.Name T tp)) (some n) (b0::O) aa] [] [] pos) loc H Q:=λA E env ι s w e ak xa=>by
 refine c7 (ak) λef N=>?_;clear ak;refine cG (N) λl hl=>?_;clear N;refine wpAny_Try_except (gs (hx A _ env ι s w e ?_) λf s1 ι1 H1 L S p1 F r1 g=>?_)
 ·rintro l' au e' s1 ι' H' c ⟨ea,base,D,rfl,hD,xl,a0,hf⟩ J;have:=yj (hl.symm.trans au);subst this;refine c7 (hX c H' J) λai N=>?_;refine eX (ai) λD' Tc aq hT ad=>?_;clear ai;refine aK (N) λR hs hq=>?_;clear N;have:=gD (yj (hD.symm.trans aq));subst this;have W:base.get? env.locals=none:=(hf.2.2.1.mem (b:=env.locals) (by rw[jy,ef];exact aR ..)).1;refine wpAny_looks_onW hl ef hf λh4 a9 b1=>?_;refine wpAny_landsW (s:={ s1 with heap:=h4 }) a9 λh5 G b2=>?_;have ac:P.B.StaysIn h5:=λb o k=>G.1 b o (xl.hr.base b o k);refine wpAny_handleBy_cons (codeAny_handlers_test ?_) (by intro q;cases q);refine bk e.kind (by unfold cC;rw[e.names];exact hk) (dh (e.glob▸ok.g.keeps ac) hT ?_) hd;refine aK G.there λoe he a8=>?_;refine(ad _ h5 ea oe ac he a8).here (codeAny_handlers_suite_as ?_);refine lands_againW (s:={ s1 with heap:=h5 }) G λh6 I b3=>?_;have kl:env.kindOf n=some .local:=by unfold cC;rw[e.names];exact hn
  refine e.ns.elim λm ns=>?_;have az:s1.heap.Ns env.locals m:=Ns.of_data ns λo h=>eT (xl.kept.data h e.offL) λo' e1 d1 _=>⟨o',e1,d1⟩;have up:s1.heap.UpToSlots h6:=(b1.trans b2).trans b3;have a6:h6.Ns env.locals m:=up.ns az;have hp:(env.scope.kind == .class||(env.scope.kind == .module&&env.locals != env.globals))=false:=by rw[e.kind];rfl
  refine jB kl a6 (λh7 Y a1=>?_) hp;have nl:∀{b:Addr}{o:Obj},base.get? b=some o->b≠env.locals:=λk z=>by rw[z,W] at k;cases k
  have V:∀b o,base.get? b=some o->h7.get? b=some o:=λb o k=>a1.extBut b o (nl k) (I.1 b o k);refine aK I.there λag ar a5=>?_;have am:ea≠env.locals:=λz=>by refine m9 (I.first) λb7 b8 q1 _ q2 _=>?_;refine kM (a6) λo6 b6 b5 q3 q4 _=>?_;clear a6;rw[z] at q1;rw[q1] at q3;cases q3;rw[q2] at q4;cases q4
  have av:HR P.B ι' H' h7:=xl.hr.keep V;have off:∀a o,s.heap.get? a=some o->a∉ι->a∉ι':=λa o h j z=>(xl.new a z).elim j λy=>by rw[h] at y;cases y
  have M:env.locals∉ι':=nS ns λo es ep h _=>off _ o h e.offL;refine aD (hs _ _ env _ ea ag D _ w.room.depth w.room.units e.kind e.names e.glob e.blt Y (by simp) (λb o k=>V b o (xl.hr.base b o k)) e.newL (a1.extBut ea ag am ar) a5 hD rfl) (λf s8 g=>?_) λ_ _ y=>y;refine kA (g.same) λh8 t8 al=>?_;subst al;refine aK g.ns λm8 ae an=>?_;refine wpAny_nameGoes_keeps kl ae hp λh9 v9 a7 aj=>?_;refine lG (g.res ι' H' av M) λι2 H2 S ah aw a3 ap rr=>?_;have all:∀b o,b≠env.locals->h7.get? b=some o->h9.get? b=some o:=λb o hb e7=>aj.extBut b o hb (g.keep b o hb e7);have ay:∀b o,base.get? b=some o->h9.get? b=some o:=λb o k=>all b o (nl k) (V b o k);have b4:∀a o,s1.heap.get? a=some o->a≠env.locals->(∀vs,o.data≠.fields vs)->∃sl,h9.get? a=some { o with slots:=sl }:=λa o h ha j=>(up a o h j).elim λsl e6=>⟨sl,all a _ ha (a1.extBut a _ ha e6)⟩;have tk:=yH (A:=A) (sY w.fr hl) xl b4 ay;have kept:Kept (own C env++ι) s.heap h9:=λa o h j=>tk a o h (λz=>j (yp (.inl (z▸aR ..)))) λz=>j (yp (.inr z));have there:∀a o,s.heap.get? a=some o->a∉ι->h7.get? a≠none:=λa o h hi z=>by
   by_cases hL:a=env.locals
   ·refine nS (Y) λo7 _ _ q _=>?_;clear Y;rw[hL,q] at z;cases z
   ·refine aK (yH (A:=A) (sY w.fr hl) xl (λa o h ha j=>(up a o h j).elim λsl e6=>⟨sl,a1.extBut a _ ha e6⟩) V a o h hL hi) λsl e1 _=>?_;rw[z] at e1;cases e1
  have p:env.locals∉ι2:=λq=>(a3 _ q).elim M λz=>by obtain⟨o7,_,_,q,_⟩:=Y;rw[show({ s1 with heap:=h7,toks:=s1.toks+1 }:Shared).heap=h7 from rfl,q] at z;cases z
  have a4:∀a∈ι2,a∈ι\/s.heap.get? a=none:=λa ha=>by
   by_cases hi:a∈ι
   ·exact .inl hi
   ·right;cases y:s.heap.get? a with
    | none=>rfl
    | some o=>exact(a3 a ha).elim (λq=>absurd q (off a o y hi)) λq=>absurd q (there a o y hi)
  have af:kD [env.locals] h8:=oQ (Z:=λb=>∀vs,¬ IsTup h8 b vs) λvs q=>kM ae λo es ep h dt _=>eT q λo' ao _ z=>z.elim λnn z=>by have:=yj (h.symm.trans ao);subst this;rw[dt] at z;cases z
  have a2:∀b o,b∉[env.locals]->h8.get? b=some o->h9.get? b=some o:=λb o hb k=>aj.extBut b o (λz=>hb (z▸yn rfl)) k;have ax:HR P.B ι2 H2 h9:=aw.off a2 af (oQ (Z:=λb=>b∉ι2) p) (oQ (Z:=λb=>P.B.get? b=none) e.newL);have ps:PostS P.B (own C env) ι s ι2 H2 { s1 with heap:=h9,toks:=t8+1 }:=⟨xl.pre.trans ah,ax,kept,a4,xl.same⟩;have x:∀y c t,some y∈C.vars->env.cells.lookup y=some c->s.heap.IsCell c t->h9.IsCell c t:=λy c t U J ic=>aK ic λo h dc=>aK (tk c o h (e.offC y c U J).2.1 (e.offC y c U J).1) λsl e1 _=>⟨_,e1,dc⟩;refine⟨ι2,H2,loc,S,ps,⟨e.kind,e.names,e.glob,e.blt,⟨_,a7⟩,p,e.newL,λy c U J=>?_,λy c U J=>(e.isC y c U J).elim λt ic=>⟨t,x y c t U J ic⟩,e.apart,e.len,λi y hi=>?_⟩,ap.mono (Kept.of_keeps a2) af,hq _ _ rr⟩
  ·exact⟨λq=>(a4 c q).elim (e.offC y c U J).1 λz=>(e.isC y c U J).elim λt ic=>aK ic λo h _=>jO z h,(e.offC y c U J).2⟩
  ·refine aK (e.vars i y hi) λt ab hv=>?_
   by_cases hy:y∈n::ys
   ·refine ab.elim (λq=>⟨_,.inl ⟨q.1,_,a7,rfl⟩,λdd K=>absurd K (ni y hy i dd hi)⟩) λq=>aK q.2 λc ec ic=>⟨t,.inr ⟨q.1,c,ec,x y c t (yc hi) ec ic⟩,λdd K=>absurd K (ni y hy i dd hi)⟩
   ·rw[cA,not_or] at hy;refine⟨t,ab.imp (λq=>⟨q.1,aK q.2 λm' n' em=>⟨_,a7,?_⟩⟩) λq=>⟨q.1,aK q.2 λc ec ic=>⟨c,ec,x y c t (yc hi) ec ic⟩⟩,λdd K=>aK (hv dd K) λv ev rv=>⟨v,ev,ps.vr w.hr e rv⟩⟩;have:=s_ n' ns;subst this;have e8:=an y hy.2;simp only[if_neg hy.1] at e8 ⊢;rw[e8];exact em
 ·have z:=g.1;cases S with
  | next=>exact absurd rfl z
  | brk=>cases r1;exact⟨ι1,H1,L,.brk,p1,F,rfl,g.2⟩
  | cont=>cases r1;exact⟨ι1,H1,L,.cont,p1,F,rfl,g.2⟩
  | ret v=>exact aK r1 λu hu r=>by subst hu;exact⟨ι1,H1,L,.ret v,p1,F,⟨u,rfl,r⟩,g.2⟩
  | exc c=>exact r1.elim
end Mine
namespace Mine
open PySem PySem.W PyProof.Rows
structure ExcK (K:Frag) (D:Addr):Prop where
 cls:(clsIn K D).isSome=true
 ga:findIn K (.ref D) "__getattribute__" = some (some (.builtin "BaseException.__getattribute__"))
 gt:findIn K (.ref D) "__getattr__" = some none
 ca:findIn K (.ref D) "__class__" = some (some (.builtin "object.__class__"))
 mo:mroIn K D (.type "object")=some true
 mb:mroIn K D (.type "BaseException")=some true
section
variable {prog:Program}{w:World}{A:Around}{E:Value->Shared->Prop}{h:Heap}{g:Array GenState}{d:Drawn}{t:Nat}{os:OsState}{a D:Addr}{o:Obj}{K:Frag}
theorem BX {j:Value}{R:Result->Shared->Prop}(X:K.In h) (f:ExcK K D) (e:h.get? a=some o) (c:o.cls=.ref D) (k:R (.ok (.ret (.ref D))) ⟨h,g,d,t,os⟩) :
  codeAny (model prog w) A (.call (.builtin "getset_descriptor.__get__") ⟨[.builtin "object.__class__",.ref a,j],[]⟩) R ⟨h,g,d,t,os⟩:=by
 have i:Looks (model prog w) h (isSubtype (.ref D) (.type (".".intercalate ("object.__class__".cutAt '.').dropLast))) true:=by rw[F.owner_object_class];exact looks_mroIn X f.mo
 have b:(⟨h,g,d,t,os⟩:Shared).TypeIs (.builtin "object.__class__") "getset_descriptor" := F.typeOf_object_class;refine codeAny_call_builtin F.slot_gs_get.plain F.entry_gs_get (F.slot_gs_get.check _ _ _ _ _ _ _ _ b (F.args_gs_get _ _ _) ?_)
 repeat (any_goals (first|assumption|(with_reducible refine gG e ?_;rw[c])|with_reducible refine i.at ?_|wp_step))
 refine⟨Code.quiet_builtin _ (by decide+kernel),codeAny_builtin F.entry_object_class ?_⟩
 repeat (any_goals (first|assumption|(with_reducible refine gG e ?_;rw[c])|wp_step))
theorem E6 {j:Tok}{Q:Fin->Shared->Prop}(X:K.In h) (b:ExcK K D) (e:h.get? a=some o) (c:o.cls=.ref D) (n:Q (.done (.ret (.ref D))) ⟨h,g,d,t,os⟩) :
  aP (model prog w) A (Builtin.«object.__getattribute__» ⟨[.ref a,.str "__class__" j],[]⟩) Q E ⟨h,g,d,t,os⟩:=by
 have i:(⟨h,g,d,t,os⟩:Shared).TypeIs (.builtin "object.__class__") "getset_descriptor" := F.typeOf_object_class;have f:=looks_findIn (M:=model prog w) X b.ca;have k:=F.typeOf_object_class;have l:=F.slot_gs_get.lookup;have m:=F.slot_gs_set.lookup
 repeat (any_goals (first|assumption|(with_reducible refine gG e ?_;rw[c])|with_reducible refine f.at ?_|wp_step))
 refine BX X b e c ?_
 repeat (any_goals (first|assumption|wp_step))
theorem E5 {b:Value}{Q:Unit->Shared->Prop}(X:K.In h) (e:ExcK K D) (l:h.get? a=some o) (i:o.cls=.ref D) (k:Q () ⟨h,g,d,t,os⟩) :
  aP (model prog w) A (checkBuiltinCall "BaseException.__getattribute__" ⟨[.ref a,b],[]⟩) Q E ⟨h,g,d,t,os⟩:=by
 have j:builtinKind "BaseException.__getattribute__" = some .slot:=by decide+kernel
 have c:splitId "BaseException.__getattribute__" = some ("BaseException", "__getattribute__"):=by decide+kernel
 have f:=looks_mroIn (M:=model prog w) X e.mb;have m:=F.args_bexc_ga (.ref a) b;simp only[checkBuiltinCall,j,c];refine ad ?_
 ·unfold isInstance
  repeat (first|(with_reducible refine gG l ?_;rw[i])|with_reducible refine f.at ?_|wp_step)
  exact k
theorem D0 {i:Tok}{R:Result->Shared->Prop}(X:K.In h) (b:ExcK K D) (e:h.get? a=some o) (c:o.cls=.ref D) (f:R (.ok (.ret (.ref D))) ⟨h,g,d,t,os⟩) :
  codeAny (model prog w) A (.call (.builtin "BaseException.__getattribute__") ⟨[.ref a,.str "__class__" i],[]⟩) R ⟨h,g,d,t,os⟩ :=
 codeAny_call_builtin F.excAttr_ValueError.ga.plain F.entry_bexc_ga (E5 X b e c (E6 X b e c f))
theorem AB {n:Tok}{b expr:Bool}{Q:Value->Shared->Prop}(X:K.In h) (c:ExcK K D) (i:h.get? a=some o) (f:o.cls=.ref D) (q:Q (.ref D) ⟨h,g,d,t,os⟩) :
  aP (model prog w) A (getAttrBy (.ref a) (.str "__class__" n) b expr) Q E ⟨h,g,d,t,os⟩:=by
 have p:=F.excAttr_ValueError.ga.bind (.ref a);have j:=looks_findIn (M:=model prog w) X c.ga;have k:=looks_findIn (M:=model prog w) X c.gt;have l:(expr&&onTheHeap (ii "BaseException.__getattribute__"))=false:=by cases expr<;>rfl
 have e:(ii "BaseException.__getattribute__" == ii "object.__getattribute__")=false:=by decide+kernel
 have m:(onTheHeap (db D)&&ii "BaseException.__getattribute__" == ii "object.__getattribute__")=false:=by rw[e];rfl
 repeat (any_goals (first|assumption|(with_reducible refine gG i ?_;rw[f])|with_reducible refine j.at ?_|with_reducible refine k.at ?_|wp_step))
 refine D0 X c i f ?_
 repeat (any_goals (first|assumption|wp_step))
theorem DZ {Q:Option Value->Shared->Prop}(X:K.In h) (b:ExcK K D) (e:h.get? a=some o) (c:o.cls=.ref D) (f:Q (some (.ref D)) ⟨h,g,d,t+1,os⟩) :
  aP (model prog w) A (getAttr? (.ref a) "__class__") Q E ⟨h,g,d,t,os⟩:=by
 unfold getAttr? getAttrBy?
 repeat (any_goals (first|assumption|with_reducible apply AB X b e c|wp_step))
end
theorem ExcK.at {K:Frag}{D:Addr}(a:ExcK K D):∃c dd cd b,K.lookup D=some ⟨c,dd,.cls cd,b⟩:=by
 have h:=a.cls;unfold clsIn at h;split at h
 ·exact⟨_,_,_,_,by assumption⟩
 ·cases h
theorem BY {K:Frag}{D a:Addr}(b:ExcK K D):KitX K (.ref a) (.ref D) (λh=>∃o,h.get? a=some o/\o.cls=.ref D) where
 ty:=λM h _ p=>by obtain⟨o,f,i⟩:=p;exact i▸(Looks.ld f).andThen .now
 it:=λ_ _ X _=>by refine pF (b.at) λc dd cd r j=>?_;intro A' x v s' k q;exact ad (wpAny_loadPart (k _ _ (X _ _ j)) (aJ q))
 ne:=λh u dd its n r X l=>by refine pF (b.at) λc m cd t j=>?_;refine Bool.eq_false_iff.mpr λq=>?_;have e:D=u:=gD (beq_iff_eq.mp q);subst e;have z:=(X _ _ j).symm.trans l;cases z
 ca:=λ{prog w A E Q s} X p k=>by obtain⟨y,g,d,tt,os⟩:=s;refine aK (p) λo f i=>?_;clear p;exact DZ X b f i k
theorem Gw {P:PEnv}{K:Frag}{c T:Str}{D:Addr}{a:Value}(X:K.In P.B) (f:P.mg c=some (.ref D)) (e:P.mg T=some a) (g:exmOne K (.ref D) a=some true):pN P c T :=
 ⟨D,a,f,e,λM h i o st b d=>exm_one (X.keeps st) (d▸(Looks.ld b).andThen .now) g⟩
end Mine
namespace Mine
open PySem PySem.W PyProof.Rows
def mK (s:Shared) (h:Heap):Prop:=∀q o,s.heap.get? q=some o->h.get? q=some o
structure XEnv (P:PEnv) (C:Ctx) (x:Str) (D:Addr) (env:Env) (s:Shared):Prop where
 kind:env.scope.kind=.function
 names:env.scope.names=C.names
 glob:env.globals=dA
 blt:env.builtins=builtinsNs
 ns:∃m ea o,s.heap.Ns env.locals m/\m x=some (.ref ea)/\s.heap.get? ea=some o/\o.cls=.ref D
 base:P.B.StaysIn s.heap
variable {P:PEnv}{C:Ctx}{d:Nat}{x:Str}{D:Addr}
theorem XEnv.grow {j:Nat}(e:XEnv P C x D env s) (k:mK s h):XEnv P C x D env { s with heap:=h,toks:=j }:=by refine oX (e.ns) λm a o d f g i=>?_;exact⟨e.kind,e.names,e.glob,e.blt,⟨m,a,o,d.keeps k,f,k _ _ g,i⟩,λb o c=>k _ _ (e.base b o c)⟩
def XV (P:PEnv) (C:Ctx) (d:Nat) (x:Str) (D:Addr) (e:Expr) (b:Bool):Prop :=
 ∀A E env s (Q:Value->Shared->Prop),A.depth+d<de->XEnv P C x D env s->(∀h tk,mK s h->Q (.bool b) { s with heap:=h,toks:=tk })->aP (model P.prog P.w) A (eval e env) Q E s
def XT (P:PEnv) (C:Ctx) (d:Nat) (x:Str) (D:Addr) (e:Expr) (b:Bool):Prop :=
 ∀A E env s (Q:Bool->Shared->Prop),A.depth+d<de->XEnv P C x D env s->(∀h tk,mK s h->Q b { s with heap:=h,toks:=tk })->aP (model P.prog P.w) A (isTrue e env (eval e env)) Q E s
def XB (P:PEnv) (C:Ctx) (d:Nat) (x:Str) (D:Addr) (body:List Stmt) (f:Flow):Prop :=
 ∀A E env s (Q:Flow->Shared->Prop),A.depth+d<de->XEnv P C x D env s->(∀h tk,mK s h->Q f { s with heap:=h,toks:=tk })->aP (model P.prog P.w) A (execs body env) Q E s
theorem mK.refl :mK s s.heap:=λ_ _ e=>e
theorem mK.trans {c:Nat}(a:mK s h) (b:mK { s with heap:=h,toks:=c } h'):mK s h':=λq o e=>b q o (a q o e)
theorem sR {b:Bool}(h:XV P C d x D e b) (c:∀env a,isTrue e env a=(do let v <-a;standAt e.pos;holding [v] (truthy v))):XT P C d x D e b:=λA E env s Q f j k =>
 isTrue_plain (h A E env s _ f j λh i g=>d6 (k h i g)) (c env _)
theorem B1 {b:Bool}(h:XT P C d x D e b):XT P C d x D (.UnaryOp .Not e pos) (!b):=λA E env s Q a c k=>isTrue_not (h A E env s _ a c k)
theorem F9 :XT P C d x D (.BoolOp .Or [] pos) false:=λA E env s Q a b k=>isTrue_or_nil (k s.heap s.toks .refl)
theorem rS {a:List Expr}{b:Bool}(h:XT P C d x D e false) (l:XT P C d x D (.BoolOp .Or a pos) b):XT P C d x D (.BoolOp .Or (e::a) pos) b:=λA E env s Q f i k=>by refine isTrue_or (h A E env s _ f i λm n g=>?_);show aP _ _ _ _ _ _;rw[uI _ (eval (.BoolOp .Or a pos) env)];exact l A E env _ _ f (i.grow g) λh' c j=>k h' c (g.trans j)
def Glob (P:PEnv) (y:Str) (v:Value):Prop:=P.mg y=some v\/(P.mg y=none/\P.mb y=some v)
theorem r_ {y:Str}{v:Value}{Q:Value->Shared->Prop}(ok:P.OK) (a:XEnv P C x D env s) (g:Glob P y v) (h:C.names.lookup y=some .globalImplicit)
  (d:(y == ("__debug__" : Str))=false) (q:Q v s):aP (model P.prog P.w) A (eval (.Name y pos) env) Q E s:=by
 have c:env.kindOf y=some .globalImplicit:=by unfold cC;rw[a.names];exact h
 rcases g with g|⟨e,f⟩
 ·exact bk a.kind c (dh (a.glob▸ok.g.keeps a.base) g q) d
 ·exact bk a.kind c (dL (a.glob▸ok.g.keeps a.base) e (a.blt▸ok.b.keeps a.base) f q) d
theorem wy {Q:Value->Shared->Prop}(b:XEnv P C x D env s) (h:C.names.lookup x=some .local)
  (g:(x == ("__debug__" : Str))=false) (q:∀a o,s.heap.get? a=some o->o.cls=.ref D->Q (.ref a) s):aP (model P.prog P.w) A (eval (.Name x pos) env) Q E s:=by
 refine oX (b.ns) λm a o c d e f=>?_;exact mv (g_ b.kind (by unfold cC;rw[b.names];exact h) c d (q a o e f)) g
theorem B2 {K:Frag}{y:Str}{cv:Value}{b:Bool}{p1 p2 p3:Pos}(ok:P.OK) (X:K.In P.B) (f:ExcK K D) (c:Glob P "isinstance" (.builtin "isinstance")) (l:Glob P y cv) (e:kitOne K (.ref D) cv=some b)
  (k1:C.names.lookup ("isinstance" : Str)=some .globalImplicit) (k2:C.names.lookup x=some .local) (k3:C.names.lookup y=some .globalImplicit) (g:(x == ("__debug__" : Str))=false) (h:(y == ("__debug__" : Str))=false) :
  XV P C d x D (.Call (.Name "isinstance" p1) [.Name x p2,.Name y p3] [] pos) b:=λA E env s Q r a k=>by
 refine Call_ (r_ ok a c k1 (by decide) ?_);have s1:bD [.Name x p2,.Name y p3] env=(false,eval (.Name x p2) env)::bD [.Name y p3] env:=rfl;have m:bD [.Name y p3] env=(false,eval (.Name y p3) env)::bD [] env:=rfl;have n:(backTo pos (bD [.Name y p3] env)).any (·.1)=false:=rfl;refine callWith_builtin1 (spliced_more (wy a k2 g λq o i j=>?_) s1) s1 n;refine spliced_more (r_ ok a l k3 h (spliced_none ?_)) m;exact kia_one (BY f) (X.keeps a.base) ⟨o,i,j⟩ e (by intro z;cases z) λp=>k s.heap p .refl
end Mine
namespace Mine
open PySem PySem.W PyProof.Rows
abbrev Rais:=List AV->Hp->XP->Prop
noncomputable def Bl (c:Str) (loc:Loc) (Q:PF):PL:=λvs H=>vs.length<=ag/\Q (.exc c) loc H
noncomputable def kRx (R:Rais) (loc:Loc) (Q:PF):PL:=λvs H=>R vs H λc H'=>Q (.exc c) loc H'
abbrev mL:=List AV->Hp->PQ->XP->Prop
noncomputable def tH (R:mL) (hd:Str->Option (List Str)) (loc:Loc) (Q:PF):PL:=λvs H=>R vs H (λv H'=>Q (.ret (.tup [v])) loc H') λc H'=>∃l,hd c=some l/\Q (.ret (.ref H'.length)) loc (H'++[.list (l.map .str)])
namespace MS
noncomputable def raise (c:Str) (as:List ME):MS:=λΦ loc H Q=>wpEs Φ as loc H (Bl c loc Q)
noncomputable def orX (m:MS) (as:List ME) (R:Rais):MS:=λΦ loc H Q=>wpS Φ m loc H Q\/wpEs Φ as loc H (kRx R loc Q)
end MS
structure CSX (Ξ:PEnv->Nat->Prop) (G:GT) (C:Ctx) (m:MS) (st:Stmt):Prop where
 snd:∀{P d Φ},GOK P G->Ξ P d->m_ P d Φ->∀{loc H}{Q:PF},wpS Φ m loc H Q->ExX P C d st loc H Q
structure CSsX (Ξ:PEnv->Nat->Prop) (G:GT) (C:Ctx) (ms:List MS) (sts:List Stmt):Prop where
 snd:∀{P d Φ},GOK P G->Ξ P d->m_ P d Φ->∀{loc H}{Q:PF},wpSs Φ ms loc H Q->ExsX P C d sts loc H Q
section
variable {Ξ:PEnv->Nat->Prop}{G:GT}{C:Ctx}{m:MS}{ms:List MS}{st:Stmt}{sts:List Stmt}{pos:Pos}
theorem CSX.of (h:CS G C m st):CSX Ξ G C m st:=⟨λok _ a _ _ _ w=>(h.snd ok a w).x⟩
theorem CSsX.nil:CSsX Ξ G C [] []:=⟨λ_ _ _ _ _ _ w=>El w⟩
theorem ExX.mono {P:PEnv}{d:Nat}{loc:Loc}{Q i:PF}(h:ExX P C d st loc H Q) (q:∀f l H,Q f l H->i f l H):ExX P C d st loc H i :=
 λA E env ι s w e t u=>aD (h A E env ι s w e t λl m b s' ι' H' a c o k n=>u l m b s' ι' H' a c o k (q _ _ _ n)) (λf s' g=>by
  obtain⟨ι',H',a,j,p,b,r,z⟩:=g;exact⟨ι',H',a,j,p,b,r,q _ _ _ z⟩) λ_ _ x=>x
theorem CSsX.cons (h:CSX Ξ G C m st) (c:CSsX Ξ G C ms sts):CSsX Ξ G C (m::ms) (st::sts):=⟨λok b a _ _ Q w=>by
 refine FO ((h.snd ok b a w).mono λf l H q=>?_);cases f with
 | next=>exact c.snd ok b a q
 | _=>exact q⟩
theorem CSX.ite {a:ME}{x:Expr}{f mb:List MS}{g h:List Stmt}(l:CE G C a x) (j:CSsX Ξ G C f g) (k:CSsX Ξ G C mb h):CSX Ξ G C (.ite a f mb) (.If x g h pos):=⟨λok i b _ _ _ w =>
 A5 ((l.snd ok b w).2 _ λv H' q=>by
  refine aK (asB.ex q) λc d e=>?_;subst d;revert e;intro q;cases c with
  | false=>exact k.snd ok i b q
  | true=>exact j.snd ok i b q)⟩
theorem lH.anyX {P:PEnv}{d:Nat}{loc:Loc}{Q:PL}{X:XP}(h:lH P C d es loc H Q XF):lH P C d es loc H Q X:=λA E env ι s pos w e _=>h A E env ι s pos w e Acc.no
theorem CSX.raise {c:Str}{B b e:String}{bm:List Value}{l f:Pos}{a:ME}{as:List ME}{x:Expr}(h:GN C c) (k:ExcBaseFacts B b e bm) (j:CE G C a x) (i:CEs G C as xs)
  (own:∀{P d},Ξ P d->∃D,OwnCls c D bm b P.mg P.B):CSX Ξ G C (.raise c (a::as)) (.Raise (some (.Call (.Name c l) (x::xs) [] f)) none pos):=⟨λok m g _ _ Q w=>by
 refine cG (own m) λD O=>?_;exact FM ok.toOK O k h.look h.dbg (λenv=>j.star _ env) i.plain ((CEs.cons j i).snd ok g w)⟩
theorem xA {P:PEnv}{d:Nat}{loc:Loc}{f:Str}{a:ME}{as:List ME}{x:Expr}{m:Pos}{R:Rais}{X:XP}(ok:GOK P G) (c:m_ P d Φ) (k:G.fns.contains f=true) (e:GN C f) (g:CE G C a x) (l:CEs G C as xs)
  (r:∀b H X,R b H X->g6 P d f b H (λ_ _=>False) X) (w:wpEs Φ (a::as) loc H λvs H'=>R vs H' X):EvOK P C d (.Call (.Name f m) (x::xs) [] pos) loc H (λ_ _=>False) X:=by
 refine kM (ok.fns _ k) λn o fd h i j=>?_;exact xw ok.toOK e.look e.dbg h i j (((CEs.cons g l).snd ok c w).anyX.mono λvs H' w=>r _ _ _ w) λenv=>g.star _ env
theorem CSX.asgR {f:Str}{a:ME}{as:List ME}{x y:Expr}{i p b c:Pos}{n:Str}{op:Operator}{R:Rais}(l:CS G C m (.Assign [.Name n p] (.BinOp (.Call (.Name f i) (x::xs) [] c) op y b) pos))
  (k:G.fns.contains f=true) (j:GN C f) (s:CE G C a x) (o:CEs G C as xs) (r:∀{P d},Ξ P d->∀e H X,R e H X->g6 P d f e H (λ_ _=>False) X)
  (h:∀env,dQ (.BinOp (.Call (.Name f i) (x::xs) [] c) op y b) (some (.Name n p)) pos.line env=pure false) :
  CSX Ξ G C (.orX m (a::as) R) (.Assign [.Name n p] (.BinOp (.Call (.Name f i) (x::xs) [] c) op y b) pos):=⟨λok t g _ _ Q w=>by
 rcases w with w|w
 ·exact(l.snd ok g w).x
 ·exact Cv (wv ((xA ok g k j s o (r t) w).mono λ_ _ q=>q.elim)) λenv _ _=>h env⟩
inductive Sls (C:Ctx):List Str->List Nat->Prop
 | nil:Sls C [] []
 | cons {y:Str}{i:Nat}{ys:List Str}{is:List Nat}:Slot C i y->Sls C ys is->Sls C (y::ys) (i::is)
theorem Sls.mem {ys:List Str}{is:List Nat}(h:Sls C ys is):∀y∈ys,∃i∈is,Slot C i y:=by
 induction h with
 | nil=>intro y a;cases a
 | cons s _ ih =>
  intro y a;rcases yg a with rfl|a
  ·exact⟨_,aR ..,s⟩
  ·refine aK (ih y a) λi hi q=>?_;exact⟨i,yi _ hi,q⟩
theorem Ek {P:PEnv}{d:Nat}{loc:Loc}{X:XP}{x:Expr}{Q:PF}(h:EvOK P C d x loc H (λv H'=>Q (.ret v) loc H') X):ExsA P C d [.Return (some x) pos] loc H Q X:=λA E env ι s w e a=>dM (by
 rw[gZ];exact ad (fG (ad (gv (h A E env ι s w e a) λv s1 ι1 b x p1 c g=>aJ ⟨ι1,b,loc,.ret x,p1.toS,e.step w.hr p1,⟨v,rfl,c⟩,g⟩))))
end
def wpFX (Φ:Fun) (f:MF) (args:List AV) (H:Hp) (Q:PQ) (X:XP):Prop :=
 args.length=f.params/\wpSs Φ f.body (args.map some++am (f.vars-f.params) none) H (endX Q X)
structure FnX (Ξ:PEnv->Nat->Prop) (p:Program) (Γ:GT) (x:Str) (vars params:List Str) (f:MF):Prop where
 ex:∃d,d∈recsOf p/\d.name=x/\d.scope.kind=.function/\d.scope.isCoroutine=false/\d.scope.isGenerator=false/\(Ctx.mk (vars.map some) d.scope.names 0).good params=true /\
  CSsX Ξ Γ ⟨vars.map some,d.scope.names,0⟩ f.body d.body/\params.length=f.params/\vars.length=f.vars /\
  ∀pm cd doc vals,vals.length=params.length->bindArgs (iM d.name d.params d.body d.scope pm cd doc) ⟨vals,[]⟩=pure (params.zip vals)
section
variable {p:Program}{loose:List Str}{R:WRecords}{XP':(Str->Option Value)->Heap->Prop}{w:World}{s₀:Shared}{mg mb:Str->Option Value}{h:Heap}{prog:Program}
theorem FnX.call {B:Heap}{mc:Str->Option Value}{Ξ:PEnv->Nat->Prop}{Γ:GT}{x:Str}{vars params:List Str}{f:MF}{n:Nat}{Φ:Fun}{b:List AV}{H:Hp}{Q:PQ}{X:XP}(fn:FnX Ξ p Γ x vars params f) (G:Ground p loose R XP' w s0 mg mb h) (st:h.StaysIn B) (ok:GOK (PEnv.mk prog w B mg mb mc) Γ)
  (A:Ξ (PEnv.mk prog w B mg mb mc) n) (l:∀f b H Q,Φ f b H Q->g6 (PEnv.mk prog w B mg mb mc) n f b H Q XF) (m:wpFX Φ f b H Q X):g6 (PEnv.mk prog w B mg mb mc) (n+1) x b H Q X:=by
 refine oJ (fn.ex) λd v k k1 k2 k3 e=>?_;subst k;refine oh (e) λgood cs y hv u=>?_;clear e;refine nY (G.T.fn d v) λa o z c j q r g=>?_;refine c7 (g) λs t=>?_;clear g;refine c7 (m) λi m=>?_;refine uK ok.toOK (C:=⟨vars.map some,d.scope.names,0⟩) (params:=params) ⟨⟨a,o,_,PEnv.fn_mg q,st _ _ r,s,rfl,rfl,k1,k2,k3,rfl,rfl,rfl,t.keeps st,λvals i=>u z c j vals i⟩⟩ good (by rw[i,y]) (cs.snd ok A l ?_);unfold start;have:(Ctx.mk (vars.map some) d.scope.names 0).vars.length=f.vars:=by rw[<-hv];simp
 rw[this,i];exact m
structure FnMX (Ξ:PEnv->Nat->Prop) (p:Program) (Γ:GT) (c:ClsRec) (q:Str×Str) (vars params:List Str) (f:MF):Prop where
 ex:q∈nZ/\∃d,d∈c.meths/\d.name=q.1/\d.scope.kind=.function/\d.scope.isCoroutine=false/\d.scope.isGenerator=false/\(Ctx.mk (vars.map some) d.scope.names 0).good params=true /\
  CSsX Ξ Γ ⟨vars.map some,d.scope.names,0⟩ f.body d.body/\params.length=f.params/\vars.length=f.vars /\
  ∀pm cd doc vals,vals.length=params.length->bindArgs (methDef d.name (c.name ++ "." ++ d.name) d.params d.body d.scope pm cd doc) ⟨vals,[]⟩=pure (params.zip vals)
theorem FnMX.call {B:Heap}{mc:Str->Option Value}{Ξ:PEnv->Nat->Prop}{Γ:GT}{c:ClsRec}{q:Str×Str}{vars params:List Str}{f:MF}{n:Nat}{Φ:Fun}{b:List AV}{H:Hp}{Q:PQ}{X:XP}(fn:FnMX Ξ p Γ c q vars params f) (K:ClsK p loose c mg h mc) (st:h.StaysIn B) (ok:GOK (PEnv.mk prog w B mg mb mc) Γ)
  (F:Ξ (PEnv.mk prog w B mg mb mc) n) (m:∀f b H Q,Φ f b H Q->g6 (PEnv.mk prog w B mg mb mc) n f b H Q XF) (r:wpFX Φ f b H Q X):g6 (PEnv.mk prog w B mg mb mc) (n+1) q.2 b H Q X:=by
 refine c7 (fn.ex) λD g=>?_;refine oJ (g) λd y z k1 k2 k3 i=>?_;clear g;refine oh (i) λgood cs A hv x=>?_;clear i;refine nY (K.at (prog:=prog) (w:=w) (mb:=mb) st D y z) λa o E e l s t j=>?_;refine fT (j) λ_ u v=>?_;clear j;refine c7 (r) λk r=>?_;refine uK ok.toOK (C:=⟨vars.map some,d.scope.names,0⟩) (params:=params) ⟨⟨a,o,_,s,t,u,rfl,rfl,k1,k2,k3,rfl,rfl,rfl,v,λvals k=>x E e l vals k⟩⟩ good (by rw[k,A]) (cs.snd ok F m ?_);unfold start;have:(Ctx.mk (vars.map some) d.scope.names 0).vars.length=f.vars:=by rw[<-hv];simp
 rw[this,k];exact r
end
end Mine
namespace Mine
open PySem PySem.W PyProof.Rows
noncomputable def tW (h:Heap) (D:Addr):Frag:=match h.get? D with
 | some o=>(D,o)::(match o.data with
  | .cls cd=>(match h.get? cd.ns with|some o'=>[(cd.ns,o')]|none=>[])
  | _=>[])
 | none=>[]
noncomputable def qM (h:Heap):List Str->Frag
 | []=>[]
 | x::r=>(match h.nsMap dA x with|some (.ref D)=>tW h D|_=>[])++qM h r
theorem Ge {D:Addr}:∀e∈tW h D,h.get? e.1=some e.2:=by
 intro e a;unfold tW at a;split at a
 ·rename_i o c;rcases yg a with rfl|a
  ·exact c
  ·split at a
   ·split at a
    ·rename_i o' b;rw[yb a];exact b
    ·cases a
   ·cases a
 ·cases a
theorem zi {h:Heap}:∀{b:List Str},∀e∈qM h b,h.get? e.1=some e.2
 | [],e,a=>by cases a
 | x::r,e,a=>by
  rcases yd a with a|a
  ·split at a
   ·exact Ge e a
   ·cases a
  ·exact zi e a
theorem FK {K:Frag}{a:Addr}{o:Obj}(e:K.lookup a=some o):(a,o)∈K:=by
 induction K with
 | nil=>cases e
 | cons p r ih =>
  obtain⟨b,x⟩:=p;simp only[List.lookup] at e;split at e
  ·rename_i q;cases e;rw[beq_iff_eq.mp q];exact aR ..
  ·exact yi _ (ih e)
theorem yZ {b:List Str}:(qM h b).In h:=λa o e=>zi _ (FK e)
noncomputable def excB (K:Frag) (D:Addr):Bool :=
 (clsIn K D).isSome&&(findIn K (.ref D) "__getattribute__" == some (some (.builtin "BaseException.__getattribute__")))&&(findIn K (.ref D) "__getattr__" == some none) &&
 (findIn K (.ref D) "__class__" == some (some (.builtin "object.__class__")))&&(mroIn K D (.type "object") == some true)&&(mroIn K D (.type "BaseException") == some true)
theorem CA {K:Frag}{D:Addr}(h:excB K D=true):ExcK K D:=by simp only[excB,aS,beq_iff_eq] at h;refine c7 (h) λa g=>?_;clear h;obtain⟨⟨⟨⟨b,c⟩,d⟩,e⟩,f⟩:=a;exact⟨b,c,d,e,f,g⟩
structure ClsQ where
 raised:Str
 kits:List (Str×Bool)
 tys:List (String×Bool)
 caught:List Str
noncomputable def cfOk (q:ClsQ) (K:Frag) (mg:Str->Option Value):Bool:=match mg q.raised with
 | some (.ref D)=>excB K D&&(q.kits.all λp=>(mg p.1).any λv=>kitOne K (.ref D) v == some p.2)&&(q.tys.all λp=>kitOne K (.ref D) (.type p.1) == some p.2)&&(q.caught.all λx=>(mg x).any λv=>exmOne K (.ref D) v == some true)
 | _=>false
structure CFacts (q:ClsQ) (K:Frag) (mg:Str->Option Value) (D:Addr):Prop where
 at_:mg q.raised=some (.ref D)
 exc:ExcK K D
 kit:∀p∈q.kits,∃v,mg p.1=some v/\kitOne K (.ref D) v=some p.2
 ty:∀p∈q.tys,kitOne K (.ref D) (.type p.1)=some p.2
 ct:∀x∈q.caught,∃v,mg x=some v/\exmOne K (.ref D) v=some true
theorem Fr {q:ClsQ}{K:Frag}{mg:Str->Option Value}(h:cfOk q K mg=true):∃D,CFacts q K mg D:=by
 unfold cfOk at h;split at h
 ·rename_i D e;simp only[aS,aN,Option.any_eq_true,beq_iff_eq] at h;refine c7 (h) λa f=>?_;clear h;obtain⟨⟨b,c⟩,d⟩:=a;exact⟨D,e,CA b,c,d,f⟩
 ·cases h
noncomputable def cfAt (ns:List Str) (qs:List ClsQ) (s:Shared):Bool:=qs.all λq=>cfOk q (qM s.heap ns) (s.heap.nsMap dA)
def CF (qs:List ClsQ) (mg:Str->Option Value) (h:Heap):Prop:=∃K:Frag,K.In h/\∀q∈qs,∃D,CFacts q K mg D
theorem cf_of {c:List Str}{a:List ClsQ}(s:Shared) (e:cfAt c a s=true):CF a (s.heap.nsMap dA) s.heap :=
 ⟨_,yZ,λq b=>Fr (aN.mp e q b)⟩
theorem CF.keeps {a:List ClsQ}(mg:Str->Option Value) (h h':Heap) (x:CF a mg h) (e:∀b o,h.get? b=some o->h'.get? b=some o):CF a mg h':=by refine aK (x) λK c d=>?_;clear x;exact⟨K,c.keeps e,d⟩
def XC (p:Program) (lv:List (Str×WData)) (qs:List ClsQ) (mg:Str->Option Value) (h:Heap):Prop:=XL p lv mg h/\CF qs mg h
theorem XC.keeps {p:Program}{c:List (Str×WData)}{d:List ClsQ}(mg:Str->Option Value) (h h':Heap) (x:XC p c d mg h) (a:∀b o,h.get? b=some o->h'.get? b=some o):XC p c d mg h' :=
 ⟨XL.keeps mg h h' x.1 a,CF.keeps mg h h' x.2 a⟩
structure IsF (P:PEnv) (D:Addr) (kits:List (Str×Bool)):Prop where
 ok:P.OK
 iso:Glob P "isinstance" (.builtin "isinstance")
 ex:∃K:Frag,K.In P.B/\ExcK K D/\∀p∈kits,∃v,Glob P p.1 v/\kitOne K (.ref D) v=some p.2
theorem IsF.isi {P:PEnv}{D:Addr}{a:List (Str×Bool)}{C:Ctx}{d:Nat}{x y:Str}{b:Bool}{p1 p2 p3:Pos}(f:IsF P D a) (l:(y,b)∈a)
  (k1:C.names.lookup ("isinstance" : Str)=some .globalImplicit) (k2:C.names.lookup x=some .local) (k3:C.names.lookup y=some .globalImplicit) (c:(x == ("__debug__" : Str))=false) (e:(y == ("__debug__" : Str))=false) :
  XV P C d x D (.Call (.Name "isinstance" p1) [.Name x p2,.Name y p3] [] pos) b:=by
 refine eT (f.ex) λK g h i=>?_;refine aK (i _ l) λv j k=>?_;exact B2 f.ok g h f.iso j k k1 k2 k3 c e
section
variable {p:Program}{loose:List Str}{R:WRecords}{XP':(Str->Option Value)->Heap->Prop}{w:World}{s₀:Shared}{mg mb:Str->Option Value}{h:Heap}{prog:Program}
end
end Mine
namespace Mine
open PySem PySem.W PyProof.Rows
section
variable {prog:Program}{w:World}{A:Around}{E:Value->Shared->Prop}{s:Shared}
theorem Ac {l:Addr}{v:Value}{b:Bool}{u:Tok}{Q:Value->Shared->Prop}(a:s.heap.get? l=some { cls:=.type "list",dict:=none,data:=.seq (aW [v]) k,slots:=#[] })
  (h:Q (.ref s.heap.objs.size) { s with heap:=s.heap.push { cls:=.type "list",data:=.seq (aW (if b then [v] else [])) } }):aP (model prog w) A (binaryOp .Mult (.ref l) (.int (if b then 1 else 0) u)) Q E s:=by
 refine wpAny_binaryOp_repeat_ref (T := "list") (U := "int") (by decide) ⟨_,a,rfl⟩ (λs'=>typeIs_int s' _ u) noFill_list_mul F.fills_int_mul F.slot_int_rmul repeat_list F.slot_int_index.lookup
  (mw F.slot_int_rmul (typeIs_int s _ u) F.entry_int_rmul (F.args_int_rmul_2 _ _) (int___rmul___int_list _ u l _ k)
   ⟨a,rfl,⟨_,a,rfl⟩,mw F.slot_list_mul ⟨_,a,rfl⟩ F.entry_list_mul (F.args_list_mul_2 _ _)
    (AutoListH.list___mul___list_int_3 l _ k _ u (by cases b<;>decide) (by show ¬ 1*_>_;cases b<;>decide) (by show ¬ Builtin.List.listTooLong (1*_)=true;cases b<;>decide+kernel))
    ⟨a,?_⟩⟩)
 cases b<;>exact h
end
variable {P:PEnv}{C:Ctx}{d:Nat}{x:Str}{D:Addr}
def XLv (P:PEnv) (C:Ctx) (d:Nat) (x:Str) (D:Addr) (e:Expr) (l:List Str):Prop :=
 ∀A E env s (Q:Value->Shared->Prop),A.depth+d<de->XEnv P C x D env s->(∀h tk L vs n,mK s h->s.heap.get? L=none->h.get? L=some { cls:=.type "list",dict:=none,data:=.seq (aW vs) n,slots:=#[] }->(∀B h ι,VRs B h ι (l.map .str) vs)->Q (.ref L) { s with heap:=h,toks:=tk })->aP (model P.prog P.w) A (eval e env) Q E s
theorem uf {w:Str}{ic:Expr}{b:Bool}{p1 p2 p3 p4 t:Pos}(ok:P.OK) (m:ff w=true) (hi:XV P C d x D ic b) (gi:Glob P "int" (.type "int")) (n:C.names.lookup ("int" : Str)=some .globalImplicit) (j:∀env,bD [ic] env=(false,eval ic env)::bD [] env) :
  XLv P C d x D (.BinOp (.List [.Constant (.str w) k p1] p2) .Mult (.Call (.Name "int" p3) [ic] [] p4) t) (if b then [w] else []):=λA E env s Q l v p=>by
 refine lK (wpAny_List (spliced_more (wpAny_Constant_str (spliced_none ⟨by show 1<=ag;decide+kernel,?_⟩)) rfl));generalize a:s.heap.push { cls:=.type "list",data:=.seq (aW [Value.str w s.toks]) }=f;have k1:mK s f:=λq o e=>by rw[<-a];exact ay _ e
 have r:f.get? s.heap.objs.size=some { cls:=.type "list",dict:=none,data:=.seq (aW [Value.str w s.toks]) 0,slots:=#[] }:=by rw[<-a];exact ba _ rfl
 have c:XEnv P C x D env { s with heap:=f,toks:=s.toks+1 }:=v.grow k1;refine Call_ (r_ ok c gi n (by decide) ?_);refine callWith_type1 (spliced_more (hi A E env _ _ l c λi u g=>spliced_none ?_) (j env)) (j env) rfl;refine call_int_bool ?_;refine Ac (g _ _ r) ?_;have k2:mK s i:=k1.trans g;refine p _ _ _ _ 0 (λq o e=>ay _ (k2 q o e)) ?_ (ba _ rfl) λB h ι=>?_
 ·cases z:s.heap.get? i.objs.size with
  | none=>rfl
  | some o=>exact absurd (ci (k2 _ _ z)) (c9 _)
 ·cases b with
  | false=>rfl
  | true=>exact⟨_,_,rfl,VR.mkStr w _ m,rfl⟩
theorem BZ {a b:Expr}{i j:List Str}{p:Pos}(v:XLv P C d x D a i) (w:XLv P C d x D b j) (y:i.length+j.length<=1000):XLv P C d x D (.BinOp a .Add b p) (i++j):=λA E env s Q m t F=>by
 refine lK (v A E env s _ m t λh M L vs n g K u r=>w A E env _ _ m (t.grow g) λh' H I k J l G f c=>?_);have a:=(r P.B h []).length;have b:=(c P.B h []).length;rw[ya] at a b;refine PySem.P.add_list (l _ _ u) f ?_ (by rw[aH,aH,a,b];exact aa y (by decide+kernel));have k2:mK s h':=g.trans l;refine F _ _ _ (vs++k) 0 (λq o e=>ay _ (k2 q o e)) ?_ (by rw[<-nH];exact ba _ rfl) λB h ι=>?_
 ·cases z:s.heap.get? h'.objs.size with
  | none=>rfl
  | some o=>exact absurd (ci (k2 _ _ z)) (c9 _)
 ·rw[aQ];exact(r B h ι).append (c B h ι)
end Mine
namespace Mine
open PySem PySem.W PyProof.Rows
variable {P:PEnv}{C:Ctx}{d:Nat}{loc:Loc}{H:Hp}
theorem PTup.upto {h h':Heap}(up:h.UpToSlots h'){a:Addr}{vs:Array Value}(x:PTup h a vs):PTup h' a vs:=by refine mJ (x) λn dd d e=>?_;clear x;refine cG (up a _ e λws z=>by cases z) λb c=>?_;exact⟨n,dd,b,c⟩
mutual
theorem VR.upto {B h h':Heap}{ι:List Addr}(up:h.UpToSlots h'):∀(x:AV) (v:Value),VR B h ι x v->VR B h' ι x v
 | .none,_,q=>q
 | .bool _,_,q=>q
 | .int _,_,q=>q
 | .str _,_,q=>q
 | .ref _,_,q=>q
 | .obj _,_,q=>by exact q
 | .tup l,v,q=>by exact eX q λa vs e t r=>⟨a,vs,e,t.upto up,VRs.upto up l vs r⟩
 | .fro l,v,q=>by exact eX q λa vs e t r=>⟨a,vs,e,t,VRs.upto up l vs r⟩
theorem VRs.upto {B h h':Heap}{ι:List Addr}(up:h.UpToSlots h'):∀(x:List AV) (v:List Value),VRs B h ι x v->VRs B h' ι x v
 | [],_,q=>q
 | d::ds,vs,q=>by exact eX q λv r e t u=>⟨v,r,e,VR.upto up d v t,VRs.upto up ds r u⟩
end
theorem EnvR.upto (b:EnvR B C env ι h loc) (up:h.UpToSlots h'):EnvR B C env ι h' loc:=by have A:∀a o,h.get? a=some o->(∀vs,o.data≠.fields vs)->∃o',h'.get? a=some o'/\o'.data=o.data:=λa o f v=>(up a o f v).elim λF e=>⟨_,e,rfl⟩;have k:∀{m:Str->Option Value},h.Ns env.locals m->h'.Ns env.locals m:=λn=>up.ns n;have i:∀{c:Addr}{d:Option Value},h.IsCell c d->h'.IsCell c d:=λ{c d} q=>aK q λo f g=>aK (A c o f λvs z=>by rw[g] at z;cases z) λo' p l=>⟨o',p,l.trans g⟩;refine⟨b.kind,b.names,b.glob,b.blt,b.ns.elim λm n=>⟨m,k n⟩,b.offL,b.newL,b.offC,λx c u y=>(b.isC x c u y).elim λd q=>⟨d,i q⟩,b.apart,b.len,λj x t=>?_⟩;refine aK (b.vars j x t) λd w hv=>⟨d,?_,λdd s=>aK (hv dd s) λE r D=>⟨E,r,VR.upto up _ _ D⟩⟩;exact w.imp (λq=>⟨q.1,q.2.elim λm n=>⟨m,k n.1,n.2⟩⟩) λq=>⟨q.1,q.2.elim λc n=>⟨c,n.1,i n.2⟩⟩
theorem GI {M:Model}{base:Heap}{a:List Env}{L e:Addr}{cls:Value}{d:List Value}{Q:Unit->Shared->Prop}
  (j:A.frames=some (env::a)) (l:env.frame=some L) (g:base.StaysIn h) (p:h.FunFrames base (env::a)) (i:Heap.MadeExcOf h s.heap e cls d)
  (n:∀h' m,jM base (env::a) e cls m L h'->s.heap.UpToSlots h'->Q () { s with heap:=h' }):aP M A (noteFrame (.ref e) env) Q E s:=by
 refine eT (i.there) λt k r z=>?_;have c:∀b,h.get? b=none->base.get? b=none:=λb f=>by
  cases q:base.get? b with
  | none=>rfl
  | some o'=>have:=g b o' q;rw[f] at this;cases this
 unfold noteFrame;simp only[l];refine ad (c_ k rfl (x:=.none) rfl ?_);rw[if_neg (show ¬ ((fE != fE)=true) from by simp)];refine wpAny_entryW j (p.of_keeps λb o f _=>⟨o,i.keeps b o f,rfl⟩) l k (λb o f=>i.keeps b o (g b o f)) (c e i.new) rfl (by simp) rfl λh' ⟨u,v,w,y⟩=>n h' _ ⟨u,c e i.new,v,w⟩ y
theorem XLeft.noted {l:List Env}{H':Hp}{base:Heap}(x:XLeft B l S ι s ι' H' base s')
  (p:∀a∈fAs l,∀o,s.heap.get? a=some o->∃es n,o.data=.dict es n) (st:base.StaysIn h') (up:s'.heap.UpToSlots h'):XLeft B l S ι s ι' H' base { s' with heap:=h' }:=by
 refine⟨x.pre,x.hr,st,λa o e j=>?_,x.inb,x.new,x.same⟩;refine aK (x.kept a o e j) λk f r=>?_
 by_cases i:a∈fAs l
 ·refine kA (p a i o e) λes n h=>?_;obtain⟨b,d⟩:=up a _ f λvs q=>by rw[show({ o with slots:=k }:Obj).data=o.data from rfl,h] at q;cases q
  exact⟨b,d,λc=>absurd h (c es n)⟩
 ·refine cG (x.inb a o e j i) λb d=>?_;have g:=x.stays a _ d;rw[f] at g;have m:b=k:=by injection g with q;injection q with _ _ _ q;exact q.symm
  subst m;exact⟨b,st a _ d,r⟩
theorem Fl {M:Model}{A:Around}{E:Value->Shared->Prop}{s:Shared}{base:Heap}{l:List Env}{env:Env}{L e:Addr}{cls z:Value}{Q:Unit->Shared->Prop}(H:env.frame=some L) (B:jM base l e cls z L s.heap)
  (F:∀h',jM base l e cls z L h'->s.heap.UpToSlots h'->Q () { s with heap:=h' }):aP M A (do
  if (<-field (.ref e) 1) == .none then unsupported "frame.own-activation:exception-without-traceback"
  setFlight (.ref e) env.frame) Q E s:=by
 refine jA (B) λw v I m=>?_;clear B;refine nY (m) λoe vs T J C u G n=>?_;clear m;refine m7 (n) λt p k j r y=>?_;clear n;obtain⟨g,D⟩:=y;have h:3<C.size:=(Array.getElem?_eq_some_iff.mp D).1;have c:∀(x:Value) b,b≠T->(s.heap.update T (Obj.mapFields (·.setIfInBounds 3 x))).get? b=s.heap.get? b:=λx b d=>md _ _ (Ne.symm d);have a:∀b o,s.heap.get? b=some o->(∀vs,o.data≠.fields vs)->b≠T:=λb o d f q=>by rw[q,r] at d;injection d with d;subst d;exact f C g
 refine ad (c_ u t p ?_);rw[if_neg (show ¬ ((db T == fE)=true) from by simp)];rw[H];refine ad (c_ u t p ?_);rw[if_pos (show(db T != fE)=true from by simp)];exact mu r g h (F _ ⟨λb o i=>(c _ b λq=>by rw[q,k] at i;cases i).trans (w b o i),v,I.of_keeps λb o d f=>⟨o,(c _ b (a b o d f)).trans d,rfl⟩,
   oe,vs,T,_,_,(c _ e (Ne.symm j)).trans u,G,t,p,k,j,i5 _ r (mS (hU g _)),hU g _,by simp[h]⟩ λb o d f=>⟨o.slots,(c _ b (a b o d f)).trans d⟩)
theorem XAcc.noted {Q z:MFlow->Loc->Hp->Prop}(x:XAcc P C A env ι s Q E) (d:tn A env) (I:∀a∈fAs (env::(d.2.choose)),∀o,s.heap.get? a=some o->∃es n,o.data=.dict es n)
  (q:∀c l H,z (.exc c) l H->Q (.exc c) l H):XAcc P C A env ι s z (notedBy (model P.prog P.w) A env (cameBackBy (model P.prog P.w) A env E)):=by
 intro l S e s' ι' H' k c V R U;have b:=d.2.choose_spec;have:=yj (S.symm.trans b);subst this;have fin:∀{j base D h' i},e=.ref j->P.mg c=some (.ref D)->XLeft P.B (env::d.2.choose) (own C env) ι s ι' H' base s'->jM base (env::d.2.choose) j (.ref D) i env.locals h'->s'.heap.UpToSlots h'->cameBackBy (model P.prog P.w) A env E e { s' with heap:=h' }:=λ{j base D h' i} J K M N up=>by subst J;refine Fl (s:={ s' with heap:=h' }) d.1 N λh₂ F f=>?_;have f:=up.trans f;exact x _ b _ _ ι' H' k c (.inr ⟨j,base,D,rfl,K,M.noted I F.1 f,.inr ⟨i,env.locals,env,_,rfl,d.1,F⟩⟩) (R.upto f) (q _ _ _ U)
 rcases V with⟨j,base,D,rfl,m,t,i,p⟩|⟨j,base,D,rfl,m,t,⟨Y,W,O,y,T⟩|⟨i,L,X,r,G,p,g⟩⟩
 ·exact wpAny_looks_onW b d.1 p λh' h up=>fin rfl m t h up
 ·exact GI b d.1 O y T λh' i h up=>fin rfl m t h up
 ·refine c7 (fq G) λu v=>?_;subst u;subst v;have:=yj (p.symm.trans d.1);subst this;exact wpAny_noteFrame_againW p g.2.2.2 (fin rfl m t g (Heap.UpToSlots.refl _))
def ui (J:Nat->Loc->Hp->Prop) (Q:MFlow->Loc->Hp->Prop) (k:Nat) (fl:MFlow) (l'':Loc) (H'':Hp):Prop:=match fl with
    | .next=>J (k+1) l'' H''
    | .cont=>J (k+1) l'' H''
    | .brk=>Q .next l'' H''
    | .ret v=>Q (.ret v) l'' H''
    | .exc c=>Q (.exc c) l'' H''
theorem Cw {tt:Bool}{tgt it:Expr}{body:List Stmt}{pos:Pos}{Q:MFlow->Loc->Hp->Prop}
  (ht:tt=true->nW tgt=true) (h:ItEv P tt C d it loc H (λitems Cnd H1=>∃J:Nat->Loc->Hp->Prop,J 0 loc H1/\∀k loc H,J k loc H->Cnd H /\
   (∀y,items[k]?=some y->TgOK P C tgt y loc (λl'=>ExsX P C d body l' H (ui J Q k))) /\
   (k=items.length->Q .next loc H)) XF)
  (hs:∀env x,foldedSetIterable it env x=pure x):ExX P C d (.For tgt it body [] pos) loc H Q:=λA E env ι s w e tp xa=>by
 refine wpAny_For (gi (h A E env ι s w e Acc.no) λv s0 ι1 H1 items Cnd s1 p1 io g=>aK g λJ j0 a7=>?_) (hs env);clear g;have w1:=w.step p1;have e1:=e.step w.hr p1;refine io E _ λI wr It ae h₂ tk itr aa b k2=>?_;have p2:Post P.B ι1 s1 ι1 H1 { s1 with heap:=h₂,toks:=tk }:=Post.keep w1.hr k2;have hL:env.locals∉wr:=λm=>e1.ns.elim λ_ q=>nS q λo _ _ G _=>jO (b _ m) G;have hC:∀x c,some x∈C.vars->env.cells.lookup x=some c->c∉wr:=λx c hm hc m=>(e1.isC x c hm hc).elim λov q=>aK q λo G _=>jO (b c m) G;have U:∀a∈wr,P.B.get? a=none:=λa F=>w1.hr.noB (b a F);refine codeAny_forLoop_any (ForI P C env ι1 s1 wr It items.length J) (λn s' hI=>hI.el λk ι' H' N hn hk M p e' hj R=>?_) (items.length+1)
  ⟨0,ι1,H1,loc,rfl,cX _,λa F m=>?_,p2.toS,e1.step w1.hr p2,j0,aa⟩
 rotate_left
 ·rcases yd m with m|m
  ·exact aK (e1.isOwn a m) λo G _=>jO (b a F) G
  ·exact(w1.hr.mem m).elim λo G=>jO (b a F) G
 clear hI;refine fT (a7 k N H' hj) λhc a9 a1=>?_;have Y:=w1.stepS e1 p e';have t:∀a∈wr,a∉ι':=λa F m=>M a F (yp (.inr m));have K:=ntw (itr.there k ι' _ R);cases hx:items[k]? with
 | none =>
  have a2:k=items.length:=cI hk (eJ.mp hx);refine itr.stop A _ ι' H' s' _ Y.room.handled Y.hr hc (a2▸R) λh' tk O=>?_;have a0:=e'.off O K hL hC;exact gg ⟨ι',H',N,.next,PostS.trans p1.toS (qk b p (Y.hr.off O K t U) O) a0.offOwn,a0,rfl,a1 a2⟩
 | some y =>
  have a3:k<items.length:=(ym hx).1;refine itr.next A _ ι' H' s' k y _ Y.room.handled Y.hr hc R hx λv h3 L rv a6 D=>?_;have a4:=Y.hr.off D K t U;have p3:=qk (t':=L) b p a4 D;have V:=ntw (itr.thereM k v ι' _ a6);refine itr.go tgt A _ ι' { s' with heap:=h3,toks:=L } k v _ ht a6 λh4 ab i=>?_;have T:=a4.off i V t U;have p4:=qk (t':=L) b p3 T i;have e4:=(e'.off D K hL hC).off i V hL hC;refine aD (a9 y hx A _ env ι' H' { s' with heap:=h4,toks:=L } v Y.room.handled T e4 (VR.mono (S:=wr) (Kept.of_keeps i) V (af _) _ _ rv)) (λu s5 g=>g.el λad p5 e5 g=>?_) λ_ _ x=>x;have W:=p4.trans p5 e5.offOwn;have a5:It (k+1) ι' s5.heap:=itr.mono _ _ _ _ _ _ ab p5.kept (e4.noTup T) (af _) M;have w5:=w1.stepS e1 W e5;have a8:∀a∈fAs (env::tp.2.choose),∀o,s5.heap.get? a=some o->∃es n,o.data=.dict es n:=uj (A:=A) (sY w5.fr tp.2.choose_spec);have ac:XAcc P C A env ι' s5 (ui J Q k) (notedBy (model P.prog P.w) A env (cameBackBy (model P.prog P.w) A env E)):=(xa.step (PostS.trans p1.toS W e5.offOwn)).noted tp a8 λc l H q=>q;refine gs (g A _ env ι' s5 w5 e5 tp ac) (λf s6 Z H6 j fl p6 e6 r6 g=>?_);have X:=W.trans p6 e6.offOwn;have I6:J (k+1) j H6->∃m,m<n/\ForI P C env ι1 s1 wr It items.length J m s6:=λg=>⟨items.length+1-(k+1),uu hn a3,k+1,Z,H6,j,rfl,a3,λa F m=>?_,X,e6,g,
   itr.mono _ _ _ _ _ _ a5 p6.kept (e5.noTup p5.hr) p6.pre M⟩
  ·cases fl with
   | next=>cases r6;exact I6 g
   | cont=>cases r6;exact I6 g
   | brk=>cases r6;exact⟨Z,H6,j,.next,PostS.trans p1.toS X e6.offOwn,e6,rfl,g⟩
   | ret v=>exact aK r6 λu hu r=>by subst hu;exact⟨Z,H6,j,.ret v,PostS.trans p1.toS X e6.offOwn,e6,⟨u,rfl,r⟩,g⟩
   | exc c=>exact r6.elim
  ·rcases yd m with m|m
   ·exact M a F (yp (.inl m))
   ·exact(p6.new a m).elim (t a F) λz=>aK (itr.there _ _ _ a5 a F) λo G _=>jO z G
end Mine
namespace Mine
open PySem PySem.W PyProof.Rows
section
variable {P:PEnv}{C:Ctx}{d:Nat}{x:Str}{D:Addr}
def XWb (P:PEnv) (C:Ctx) (d:Nat) (x:Str) (D:Addr) (body:List Stmt) (l:List Str):Prop :=
 ∀A E env s (Q:Flow->Shared->Prop),A.depth+d<de->XEnv P C x D env s->P.B.get? env.locals=none->(∀m ea,s.heap.Ns env.locals m->m x=some (.ref ea)->ea≠env.locals) ->
  (∀h tk L vs n,(∀b o,b≠env.locals->s.heap.get? b=some o->h.get? b=some o)->s.heap.get? L=none->h.get? L=some { cls:=.type "list",dict:=none,data:=.seq (aW vs) n,slots:=#[] }->(∀B h ι,VRs B h ι (l.map .str) vs)->Q (.ret (.ref L)) { s with heap:=h,toks:=tk }) ->
  aP (model P.prog P.w) A (execs body env) Q E s
theorem E7 {n w:Str}{t H Z:Expr}{a:List Stmt}{U V:List Str}{p1 p2 p3 p4 p5 p6:Pos}(ht:XT P C d n D t false) (h1:XLv P C d n D H U) (h2:XLv P C d n D Z V) (hn:U.length+V.length<=1000)
  (hw:C.names.lookup w=some .local) (nw:n≠w) (wd:(w == ("__debug__" : Str))=false) (T:∀env,dQ H (some (.Name w p2)) p3.line env=pure false) :
  XWb P C d n D [.If t a [] p1,.Assign [.Name w p2] H p3,.Return (some (.BinOp (.Name w p4) .Add Z p5)) p6] (U++V):=λA E env s Q S X nl R kq=>by
 obtain⟨k1,k2,k3,k4,⟨m,u,o,y,hm,J,K⟩,st⟩:=id X;have kw:env.kindOf w=some .local:=by unfold cC;rw[k2];exact hw
 have hp:(env.scope.kind == .class||(env.scope.kind == .module&&env.locals != env.globals))=false:=by rw[k1];rfl
 refine dM (wpAny_If (ht A E env s _ S X λa0 a2 M=>gg ?_));refine dM (gH (h1 A E env _ _ S (X.grow M) λN W L vs nn g2 nL aL sv=>?_) (T env));have i:mK s N:=M.trans g2;refine jB kw (y.keeps i) (λO e l=>?_) hp;have k:L≠env.locals:=λz=>by refine nS (y) λo1 es ep q _=>?_;clear y;rw[z,M _ _ q] at nL;cases nL
 have c:∀b ob,b≠env.locals->s.heap.get? b=some ob->O.get? b=some ob:=λb ob g f=>l.extBut b ob g (i b ob f);have I:u≠env.locals:=R m u y hm;have G:O.get? L=some { cls:=.type "list",dict:=none,data:=.seq (aW vs) nn,slots:=#[] }:=l.extBut L _ k aL;have Y:XEnv P C n D env { s with heap:=O,toks:=W+1 }:=⟨k1,k2,k3,k4,⟨_,u,o,e,by simp only[if_neg nw];exact hm,c u o I J,K⟩,λb ob f=>c b ob (λz=>by rw[z,nl] at f;cases f) (st b ob f)⟩;refine dM ?_;rw[gZ];refine ad (fG (ad (lK (mv (g_ (v:=.ref L) k1 kw e (by simp) ?_) wd))));refine h2 A E env _ _ S Y λj a3 L' r n' x a1 F p=>?_;have z1:=(sv P.B j []).length;have z2:=(p P.B j []).length;rw[ya] at z1 z2;refine PySem.P.add_list (x _ _ G) F (aJ ?_) (by rw[aH,aH,z1,z2];exact aa hn (by decide+kernel));have up:∀b ob,b≠env.locals->s.heap.get? b=some ob->(j.push { cls:=.type "list",data:=.seq (aW vs++aW r) }).get? b=some ob:=λb ob g f=>ay _ (x b ob (c b ob g f));refine kq _ _ _ (vs++r) 0 up ?_ (by rw[<-nH];exact ba _ rfl) λB h ι=>by rw[aQ];exact(sv B h ι).append (p B h ι)
 cases z:s.heap.get? j.objs.size with
 | none=>rfl
 | some ob =>
  by_cases g:j.objs.size=env.locals
  ·refine nS (e) λo3 es ep q _=>?_;clear e;rw[<-g] at q;exact absurd (ci (x _ _ q)) (c9 _)
  ·exact absurd (ci (x _ _ (c _ _ g z))) (c9 _)
theorem D1 {f:Str}{C':Ctx}{p:Str}{body:List Stmt}{l:List Str}{p1 p2 pos:Pos}(ok:P.OK) (K:∀v,P.fn f=some v->P.mg f=some v) (fn:FnAt P f C' [p] body) (U:C'.names.lookup p=some .local) (h:XWb P C' d p D body l)
  (k1:C.names.lookup f=some .globalImplicit) (k2:C.names.lookup x=some .local) (dx:(x == ("__debug__" : Str))=false) (Z:(f == ("__debug__" : Str))=false) :
  XLv P C (d+1) x D (.Call (.Name f p1) [.Name x p2] [] pos) l:=λA E env s Q V j k=>by
 refine lG (fn.ex) λfa o fd h1 R S h4 u=>?_;refine m7 (u) λJ T h7 h8 h9 t=>?_;clear u;refine jA (t) λF G H I=>?_;clear t;refine Call_ (r_ ok j (.inl (K _ h1)) k1 Z ?_);refine callWith_def (o:=o) (fd:=fd) S (spliced_more (wy j k2 dx λm oe w e2=>spliced_none ?_)) rfl;refine⟨j.base _ _ R,kH ?_⟩;refine kI (fd:=fd) (body:=body) (binds:=[(p,.ref m)]) (by exact mA V) (j.base _ _ R) S (ok.nolimit.keeps j.base) (H.keeps j.base) h4 (I [.ref m] rfl) h9 (λy hy=>?_) (λs1 ic=>?_) h7 h8 T
 ·rw[yb hy,J];exact .inl U
 ·generalize c:callEnvC fd s.heap.objs.size fa=a at ic ⊢;have es:a.scope=fd.scope:=by rw[<-c];rfl
  have el:a.locals=s.heap.objs.size:=by rw[<-c];rfl
  refine kA (ic.toInCall.same) λh₁ t1 M=>?_;have keep:=ic.toInCall.keep;have X:a.kindOf p=some .local:=by unfold cC;rw[es,J];exact U
  have new:s.heap.get? a.locals=none:=by
   cases z:s.heap.get? a.locals with
   | none=>rfl
   | some q=>exact absurd (ci z) (by rw[el];exact c9 _)
  have O:XEnv P C' p D a s1:=⟨by rw[es];exact T,by rw[es,J],by rw[<-c];exact F,by rw[<-c];exact G,
   ⟨_,m,oe,ic.toInCall.ns,sE (ps:=[p]) (vs:=[.ref m]) (i:=0) X (by simp) rfl rfl,keep _ _ w,e2⟩,λb o eb=>keep _ _ (j.base b o eb)⟩
  refine h _ _ a s1 _ (show A.depth+1+d<_ by exact z121 V) O ?_ (λm' a0 N r=>?_) λh' tk L vs n g W Y sv=>?_
  ·cases z:P.B.get? a.locals with
   | none=>rfl
   | some q=>have:=j.base _ _ z;rw[new] at this;cases this
  ·have:=s_ N ic.toInCall.ns;subst this;have hb:bindL a.kindOf [(p,db m)] (λ_=>none) p=some (.ref m):=sE (ps:=[p]) (vs:=[.ref m]) (i:=0) X (by simp) rfl rfl;rw[hb] at r;cases r;intro z;rw[z,new] at w;cases w
  ·have:=k h' tk L vs n (λq o' e=>g q o' (λz=>by rw[z,new] at e;cases e) (keep q o' e)) (by
    cases z:s.heap.get? L with
    | none=>rfl
    | some q=>rw[keep _ _ z] at W;cases W) Y sv
   rw[M];exact this
theorem F3 {n:Str}{l:List Str}{c:Str}(B:P.mg c=some (.ref D)) (h:XLv P C d n D e l):r9 P C d n [] [.Return (some e) pos] c (λw H t=>w=.ret (.ref H.length)/\t=H++[.list (l.map .str)]):=λA E env s v o N m G S k1 k2 k3 I r F st T j k x R=>by
 have:=gD (yj (B.symm.trans x));subst this;refine dM ?_;rw[gZ];refine ad (fG (ad (h A E env s _ G ⟨k1,k2,k3,I,⟨m,v,o,r,F,j,k⟩,st⟩ λO M L vs J g p u K=>aJ ?_)));refine⟨⟨_,_,rfl⟩,⟨_,r.keeps g,λz _=>rfl⟩,λb ob _ i=>g b ob i,λι H f Q=>⟨ι++[L],H++[.list (l.map .str)],.ret (.ref H.length),bE _ _,?_,λa y=>(yd y).imp id λq=>by rw[yb q];exact p,?_,rfl,rfl⟩⟩
 ·exact(f.keep g).adopt (λq=>(f.mem q).elim λob i=>jO p i) (f.noB p) ⟨vs,⟨J,u⟩,K _ _ _⟩
 ·exact⟨_,rfl,_,rfl,by rw[<-f.len];simp⟩
end
structure FnW (p:Program) (f x w:Str) (kits:List (Str×Bool)) (l:List Str):Prop where
 ex:∃d,d∈recsOf p/\d.name=f/\d.scope.kind=.function/\d.scope.isCoroutine=false/\d.scope.isGenerator=false/\d.scope.names.lookup x=some .local /\
  (∀{P:PEnv}{n:Nat}{D:Addr},IsF P D kits->Glob P "int" (.type "int")->XWb P ⟨[some x,some w],d.scope.names,0⟩ n x D d.body l) /\
  ∀pm cd doc vals,vals.length=[x].length->bindArgs (iM d.name d.params d.body d.scope pm cd doc) ⟨vals,[]⟩=pure ([x].zip vals)
section
variable {p:Program}{loose:List Str}{R:WRecords}{XP':(Str->Option Value)->Heap->Prop}{w:World}{s₀:Shared}{mg mb:Str->Option Value}{h:Heap}{prog:Program}
theorem FnW.call {B:Heap}{mc:Str->Option Value}{f x y v:Str}{b:List (Str×Bool)}{l:List Str}{C:Ctx}{n:Nat}{D:Addr}{p1 p2 pos:Pos}(fn:FnW p f x v b l) (G:Ground p loose R XP' w s0 mg mb h) (st:h.StaysIn B) (i:IsF (PEnv.mk prog w B mg mb mc) D b) (gi:Glob (PEnv.mk prog w B mg mb mc) "int" (.type "int"))
  (k1:C.names.lookup f=some .globalImplicit) (k2:C.names.lookup y=some .local) (s:(y == ("__debug__" : Str))=false) (r:(f == ("__debug__" : Str))=false) :
  XLv (PEnv.mk prog w B mg mb mc) C (n+1) y D (.Call (.Name f p1) [.Name y p2] [] pos) l:=by
 refine oJ (fn.ex) λd A m H I J g=>?_;subst m;refine fT (g) λK L M=>?_;clear g;refine nY (G.T.fn d A) λa o F c k q t j=>?_;refine c7 (j) λu z=>?_;clear j;exact D1 i.ok (λv e=>by rw[PEnv.fn_mg q] at e;exact q.trans e) (C':=⟨[some x,some v],d.scope.names,0⟩) ⟨⟨a,o,_,PEnv.fn_mg q,st _ _ t,u,rfl,rfl,H,I,J,rfl,rfl,rfl,z.keeps st,λvals E=>M F c k vals E⟩⟩ K (L i gi) k1 k2 s r
end
noncomputable def rN (Φ:Fun) (as:List ME) (R:mL) (hd:Str->Option (List Str)) (loc:Loc) (Q:PF):PQ:=λx H=>match x with|.obj k=>wpEs Φ as loc H (λvs H'=>tH R hd loc Q (.obj k::vs) H')|_=>False
theorem rN.ex {as:List ME}{R:mL}{a:Str->Option (List Str)}{loc:Loc}{Q:PF}{x:AV}(h:rN Φ as R a loc Q x H):(∃k,x=.obj k)/\wpEs Φ as loc H λvs H'=>tH R a loc Q (x::vs) H':=by
 cases x with
 | obj k=>exact⟨⟨k,rfl⟩,h⟩
 | _=>exact h.elim
theorem k_tm {as:List ME}{R:mL}{a:Str->Option (List Str)}{loc:Loc}{Q:PF}:rN Φ as R a loc Q (.obj k) H=wpEs Φ as loc H (λvs H'=>tH R a loc Q (.obj k::vs) H'):=rfl
namespace MS
noncomputable def tryM (is:List Nat) (o:ME) (as:List ME) (R:mL) (hd:Str->Option (List Str)):MS:=λΦ loc H Q=>(∀i∈is,loc[i]?=some none)/\wpE Φ o loc H (rN Φ as R hd loc Q)
end MS
section
variable {Ξ:PEnv->Nat->Prop}{G:GT}{C:Ctx}{m:MS}{ms:List MS}{st:Stmt}{sts:List Stmt}{pos:Pos}
theorem Co {P:PEnv}{d:Nat}{loc:Loc}{Q:PQ}{X:XP}(h:EvOK P C d e loc H Q XF):EvOK P C d e loc H Q X:=λA E env ι s w e _=>h A E env ι s w e Acc.no
theorem CSX.tryM {T n:Str}{q:Str×Str}{a o:ME}{as:List ME}{x y:Expr}{ap p1 Z g b m:Pos}{B:Stmt}{e:List Stmt}{R:mL}{t:Str->Option (List Str)}{is:List Nat}{ys:List Str}
  (S:q∈kS) (O:CE G C o y) (J:CE G C a x) (U:CEs G C as xs) (L:MethForm y q.1 ap b (x::xs)) (r:∀{P d},Ξ P d->∀f H Q X,R f H Q X->g6 P d q.2 f H Q X) (E:GN C T) (Y:Sls C (n::ys) is) (W:n∉ys) (N:C.names.lookup n=some .local)
  (u:∀env,bD [.Call (.Attribute y q.1 ap) (x::xs) [] b] env=(false,eval (.Call (.Attribute y q.1 ap) (x::xs) [] b) env)::bD [] env)
  (I:∀{P d},Ξ P d->∀c l,t c=some l->pN P c T/\r9 P C d n ys (B::e) c (λD H p=>D=.ret (.ref H.length)/\p=H++[.list (l.map .str)])) :
  CSX Ξ G C (.tryM is o (a::as) R t) (.Try [.Return (some (.Tuple [.Call (.Attribute y q.1 ap) (x::xs) [] b] k m)) p1] [.ExceptHandler (some (.Name T Z)) (some n) (B::e) g] [] [] pos):=⟨λok A h loc _ Q w=>by
 refine Cy (X:=λc H'=>∃l,t c=some l/\Q (.ret (.ref H'.length)) loc (H'++[.list (l.map .str)])) (ys:=ys) ok.toOK E.look E.dbg N (λy V j dd M z=>?_) W (Ek (wx (uN ?_ u))) λc H' q=>aK q λl F K=>⟨(I A c l F).1,_,(I A c l F).2,λD p z=>by rw[z.1,z.2];exact K⟩
 ·refine aK (Y.mem y V) λi hi s=>?_;rw[s.uniq j M,w.1 i hi] at z;cases z
 ·refine ww S ok.toOK ok.cls (pl:=λenv=>do return (<-importBound _ env).getD true) ((Co (O.snd ok h w.2).1).mono λx H1 w=>⟨w.ex.1,?_⟩) L.he λenv=>J.star _ env;exact((CEs.cons J U).snd ok h w.ex.2).anyX.mono λvs H' w=>(r A _ _ _ _ w).mono λv p q=>uh ⟨by show 1<=ag;decide+kernel,λz=>(by cases z),q⟩⟩
theorem CSX.retR {f:Str}{a:ME}{as:List ME}{x:Expr}{g c:Pos}{R:Rais}(j:CS G C m (.Return (some (.Call (.Name f g) (x::xs) [] c)) pos))
  (i:G.fns.contains f=true) (h:GN C f) (l:CE G C a x) (k:CEs G C as xs) (r:∀{P d},Ξ P d->∀b H X,R b H X->g6 P d f b H (λ_ _=>False) X) :
  CSX Ξ G C (.orX m (a::as) R) (.Return (some (.Call (.Name f g) (x::xs) [] c)) pos):=⟨λok n e _ _ Q w=>by
 rcases w with w|w
 ·exact(j.snd ok e w).x
 ·exact Cx ((xA ok e i h l k (r n) w).mono λ_ _ q=>q.elim)⟩
noncomputable def zP (Φ:Fun) (i:Nat) (b:List MS) (loc:Loc) (Q:PF):KI:=λitems Cnd H=>∃J:Nat->Loc->Hp->Prop,J 0 loc H/\∀k loc H,J k loc H->Cnd H/\(∀y,items[k]?=some y->wpSs Φ b (loc.set i (some y)) H (ui J Q k))/\(k=items.length->Q .next loc H)
noncomputable def MS.forX (i:Nat) (its:List ME) (b:List MS):MS:=λΦ loc H Q=>wpEs Φ its loc H (kIt .plain (zP Φ i b loc Q))
theorem CSX.forX {i:Nat}{n:Str}{p:Pos}{its:List ME}{x:Expr}{mb:List MS}{c:List Stmt}(m:Slot C i n) (hi:CI G C .plain its x) (g:CSsX Ξ G C mb c):CSX Ξ G C (.forX i its mb) (.For (.Name n p) x c [] pos):=⟨λok o a _ _ _ w=>by
 refine Cw (λz=>by cases z) ((hi.snd ok a w).mono λitems Cnd r q=>?_) hi.folded;refine aK (q) λJ l b=>?_;clear q;refine⟨J,l,λk loc H h=>?_⟩;refine fT (b k loc H h) λd e f=>?_;exact⟨d,λy j=>uw m (g.snd ok o a (e y j)),f⟩⟩
end
end Mine
namespace Mine
open PySem PySem.W PyProof.Rows
structure NewSh (h h':Heap) (C x dx ka:Addr):Prop where
 keep:∀b o,h.get? b=some o->h'.get? b=some o
 newX:h.get? x=none
 newD:h.get? dx=none
 newK:h.get? ka=none
 xk:x≠ka
 dk:dx≠ka
 hi:h.objs.size<=ka
 obj:∃o,h'.get? x=some o/\o.cls=.ref C/\(∀c,o.data≠.cls c)/\o.dict=some dx/\dx≠x/\h'.Ns1 dx (atName (.ref ka))
 dict:h'.get? ka=some { cls:=.type "dict",data:=.dict #[] 0 }
section
variable {prog:Program}{w:World}{A:Around}{E:Value->Shared->Prop}{s:Shared}{h₀:Heap}{C N fI:Addr}{mN:Str->Option Value}{oI:Obj}{fd:FuncData}{self:Str}{p1 p2 p3 p4:Pos}
theorem F0 {Q:Value->Shared->Prop}(X:ClsAt h₀ C N mN) (st:h₀.StaysIn s.heap) (I:mN "__setattr__" = none) (a1:mN "kept" = none) (hi:mN "__init__" = some (.ref fI)) (ho:h₀.get? fI=some oI) (Z:oI.cls=.type "function") (G:oI.data=.func fd)
  (S:fd.body=.stmts [.Assign [.Attribute (.Name self p1) "kept" p2] (.Dict [] [] p3) p4]) (hk:fd.scope.kind=.function) (V:fd.scope.isCoroutine=false) (hg:fd.scope.isGenerator=false) (U:fd.closure=[]) (W:h₀.CodeRec fd.code fd.qualname) (H:h₀.NoLimit)
  (j:fd.scope.names.lookup self=some .local) (a4:(self == ("__debug__" : Str))=false) (T:∀v,bindArgs fd ⟨[v],[]⟩=pure [(self,v)]) (p:A.depth+2<de)
  (a5:∀env,dQ (.Dict [] [] p3) (some (.Attribute (.Name self p1) "kept" p2)) p4.line env=pure false)
  (hQ:∀h' tk x k ka,NewSh s.heap h' C x k ka->Q (.ref x) { s with heap:=h',toks:=tk }):aP (model prog w) A (call (.ref C) []) Q E s:=by
 obtain⟨r,g,d,t,os⟩:=s;refine pU ((X.keeps st).obj) λnm q bs sn sub M=>?_;refine pF (M) λcol dd k0 k1 L=>?_;clear M;refine mJ (L) λk2 k3 k5 P=>?_;clear L;refine wpAny_call_obj_init PySem.F.objNew P (X.keeps st).ns hi (st _ _ ho) Z λh' x k f=>kH ?_;have kk:∀b o,h₀.get? b=some o->h'.get? b=some o:=λb o e=>f.keeps _ _ (st b o e);refine kI (fd:=fd) (body:=[.Assign [.Attribute (.Name self p1) "kept" p2] (.Dict [] [] p3) p4]) (binds:=[(self,.ref x)]) (show A.depth+1<_ by exact fC p) (kk _ _ ho) G (H.keeps kk) (W.keeps kk) S (T _) U (λy hy=>?_) (λs1 ic=>?_) V hg hk
 ·rw[yb hy];exact .inl j
 ·generalize Y:callEnvC fd h'.objs.size fI=h at ic ⊢;have es:h.scope=fd.scope:=by rw[<-Y];rfl
  have pk:h.kindOf self=some .local:=by unfold cC;rw[es];exact j
  refine kA (ic.toInCall.same) λh₁ t1 a2=>?_;have keep:=ic.toInCall.keep;subst a2;refine dM (plainObj_wpAny_Assign_Attribute ?_ (a5 h));refine wpAny_Dict_empty ?_;have c:∀b o,h₁.get? b=some o->(h₁.push { cls:=.type "dict",data:=.dict #[] }).get? b=some o:=λb o e=>ay _ e;refine mv (g_ (v:=.ref x) (by rw[es];exact hk) pk (ic.toInCall.ns.keeps c) (sE (ps:=[self]) (vs:=[.ref x]) (i:=0) pk (by simp) rfl rfl) ?_) a4;have K:(h₁.push { cls:=.type "dict",data:=.dict #[] }).get? h₁.objs.size=some { cls:=.type "dict",data:=.dict #[] 0 }:=ba _ rfl;generalize a9:h₁.push { cls:=.type "dict",data:=.dict #[] }=h₂ at c K ⊢;have all:∀b o,r.get? b=some o->h₂.get? b=some o:=λb o e=>c _ _ (keep _ _ (f.keeps b o e));have R:=all _ _ P;have a7:=(X.keeps λb o e=>all b o (st b o e)).ns;have I2:h₂.Inst x C λ_=>none:=f.inst.keeps λb o e=>c _ _ (keep b o e);have u:∀o,h₂.get? x=some o->o.dict=some k:=λo e=>by refine aK (id f.inst) λo' e' _=>?_;have:=c _ _ (keep _ _ e');rw[e] at this;cases this;exact f.dict o e'
  have a6:x≠C:=λz=>by have:=f.newX;rw[z] at this;rw[show r.get? C=_ from P] at this;cases this
  have a:h'.get? h₁.objs.size=none:=by
   cases z:h'.get? h₁.objs.size with
   | none=>rfl
   | some o=>exact absurd (ci (keep _ _ z)) (c9 _)
  refine aK (id f.inst) λox J _=>?_;obtain⟨od,D⟩:∃od,h'.get? k=some od:=by
   refine lB (id f.inst) λo B _ _ O=>?_;rcases O with⟨z,_⟩|⟨d',z1,_,z2⟩
   ·rw[f.dict o B] at z;cases z
   ·rw[f.dict o B] at z1;cases z1;obtain⟨od,_,_,e,_⟩:=z2;exact⟨od,e⟩
  refine store_attr PySem.F.store_object R a7 I a1 y3 a6 I2 (λh3 a8 I3 a0 a3=>gg ?_);have m:∀b o,b≠x->b≠k->h₂.get? b=some o->h3.get? b=some o:=λb o S hd e=>a0 b o S (λo0 d0 e0 ed=>by rw[u o0 e0] at ed;cases ed;exact hd) e;have xk:x≠h₁.objs.size:=λz=>by rw[z] at J;rw[J] at a;cases a
  have dk:k≠h₁.objs.size:=λz=>by rw[z] at D;rw[D] at a;cases a
  have hi:r.objs.size<=h₁.objs.size:=by refine nS (ic.toInCall.ns) λoL _ _ eL _=>?_;exact aa f.grows (aa ic.toInCall.fresh (aX (ci eL)))
  refine⟨rfl,hQ h3 a8 x k h₁.objs.size ⟨λb o e=>m b o (λz=>by rw[z,show r.get? x=none from f.newX] at e;cases e) (λz=>by rw[z,show r.get? k=none from f.newD] at e;cases e) (all b o e),f.newX,f.newD,?_,xk,dk,hi,?_,m _ _ xk.symm dk.symm K⟩⟩
  ·cases z:r.get? h₁.objs.size with
   | none=>rfl
   | some o=>rw[f.keeps _ _ z] at a;cases a
  ·refine lB (I3) λo B O e3 e4=>?_;clear I3;refine aK (id I2) λn l _=>?_;refine pT (a3 n l) λo1 f1 f2 f3 f4 f5=>?_;rw[B] at f1;cases f1;have:=f5 k (u n l);rcases e4 with⟨z,_⟩|⟨d',z1,z2,z3⟩
   ·rw[this] at z;cases z
   ·rw[this] at z1;cases z1;exact⟨o,B,O,e3,this,z2,z3⟩
end
end Mine
namespace Mine
open PySem PySem.W PyProof.Rows
noncomputable def shB (K:Frag) (D:Addr):Bool:=plainGet K D "__class__" && hasDictIn K D&&(findIn K (.ref D) "__class__" == some (some (.builtin "object.__class__")))&&(specialIn K (.builtin "object.__class__") "__get__" == some (some (.builtin "getset_descriptor.__get__"))) &&
 (takesIn K (.builtin "object.__class__") == some true)&&(mroIn K D (.type "object") == some true)&&(["int", "bool", "str", "tuple", "list"].all λT=>kin_notT K D T)
theorem DG:∀T∈["int", "bool", "str", "tuple", "list"],typeOf (.type T)=pure (.type "type"):=λT a=>by
 rcases yg a with rfl|a
 ·exact kitMeta_of (by decide+kernel)
 rcases yg a with rfl|a
 ·exact kitMeta_of (by decide+kernel)
 rcases yg a with rfl|a
 ·exact kitMeta_of (by decide+kernel)
 rcases yg a with rfl|a
 ·exact kitMeta_of (by decide+kernel)
 ·rw[yb a];exact kitMeta_of (by decide+kernel)
theorem EE {K:Frag}{B:Heap}{D x f:Addr}{o od:Obj}(a:shB K D=true) (X:K.In B) (u:B.get? x=some o) (q:o.cls=.ref D) (t:∀c,o.data≠.cls c) (r:o.dict=some f) (b:B.get? f=some od):qA B x:=λT g prog w A E s Q st h=>by
 simp only[shB,aS,beq_iff_eq,aN] at a;refine c7 (a) λd p=>?_;clear a;obtain⟨⟨⟨⟨⟨i,j⟩,k⟩,l⟩,m⟩,n⟩:=d;refine kin_callT (K:=K) (D:=D) (ox:=o) (od:=od) (X.keeps st) ⟨st _ _ u,q,?_,?_⟩ (p T g) (DG T g) i j k l m n h
 ·unfold notCls;split
  ·rename_i c e;exact absurd e (t c)
  ·rfl
 ·rw[r];exact st _ _ b
theorem qA.keeps {B':Heap}{a:Addr}(x:qA B a) (st:B.StaysIn B'):qA B' a:=λT c prog w A E s Q k h=>x T c prog w A E s Q (λb o e=>k b o (st b o e)) h
theorem OAt.keeps {B B':Heap}{a c:Addr}(x:OAt B a c) (st:B.StaysIn B'):OAt B' a c:=by refine c7 (x) λb g=>?_;clear x;refine eX (b) λC m d e f=>?_;clear b;exact⟨⟨C,m,d.keeps st,e,f.keeps st⟩,g.keeps st⟩
mutual
theorem VR.rebase {B B' h:Heap}{ι:List Addr}(k:B.StaysIn B'):∀(d:AV) (v:Value),VR B h ι d v->VR B' h ι d v
 | .none,_,q=>q
 | .bool _,_,q=>q
 | .int _,_,q=>q
 | .str _,_,q=>q
 | .tup l,v,q=>by exact eX q λa vs e t r=>⟨a,vs,e,t,VRs.rebase k l vs r⟩
 | .ref i,v,q=>q
 | .fro l,v,q=>by exact eX q λa vs e t r=>⟨a,vs,e,t.at λo e=>k a o e,VRs.rebase k l vs r⟩
 | .obj _,v,q=>by exact eX q λa b e g o=>⟨a,b,e,g,o.keeps k⟩
theorem VRs.rebase {B B' h:Heap}{ι:List Addr}(k:B.StaysIn B'):∀(d:List AV) (v:List Value),VRs B h ι d v->VRs B' h ι d v
 | [],_,q=>q
 | d::ds,vs,q=>by exact eX q λv r e t u=>⟨v,r,e,VR.rebase k d v t,VRs.rebase k ds r u⟩
end
structure InitOK (P:PEnv) (C N:Addr) (mN:Str->Option Value) (sf:Str) (p1 p2 p3 p4:Pos):Prop where
 cls:P.mg "Shelf" = some (.ref C)
 at_:ClsAt P.B C N mN
 set:mN "__setattr__" = none
 kept:mN "kept" = none
 ex:∃fI oI fd,mN "__init__" = some (.ref fI)/\P.B.get? fI=some oI/\oI.cls=.type "function" /\ oI.data=.func fd/\fd.body=.stmts [.Assign [.Attribute (.Name sf p1) "kept" p2] (.Dict [] [] p3) p4]/\fd.scope.kind=.function/\fd.scope.isCoroutine=false/\fd.scope.isGenerator=false/\fd.closure=[] /\
  P.B.CodeRec fd.code fd.qualname/\fd.scope.names.lookup sf=some .local/\∀v,bindArgs fd ⟨[v],[]⟩=pure [(sf,v)]
 dbg:(sf == ("__debug__" : Str))=false
 sw:∀env,dQ (.Dict [] [] p3) (some (.Attribute (.Name sf p1) "kept" p2)) p4.line env=pure false
 isi:∃K:Frag,K.In P.B/\shB K C=true
variable {P:PEnv}{C:Ctx}{d:Nat}{loc:Loc}{D N:Addr}{mN:Str->Option Value}{sf:Str}{p1 p2 p3 p4:Pos}
theorem yQ {A:Around}{E:Value->Shared->Prop}{env:Env}{s:Shared}{Q:Value->Shared->Prop}{F cp:Pos}(ok:P.OK) (I:InitOK P D N mN sf p1 p2 p3 p4) (st:P.B.StaysIn s.heap) (u:env.scope.kind=.function) (v:env.scope.names=C.names) (t:env.globals=dA) (f:GN C "Shelf")
  (y:A.depth+2<de) (r:∀h' G x h z,NewSh s.heap h' D x h z->Q (.ref x) { s with heap:=h',toks:=G }):aP (model P.prog P.w) A (eval (.Call (.Name "Shelf" F) [] [] cp) env) Q E s:=by
 refine lG (I.ex) λfI oI fd i j k l b=>?_;refine m7 (b) λm n o p q a=>?_;clear b;refine fT (a) λc d e=>?_;clear a;refine Call_ (bk u (by unfold cC;rw[v];exact f.look) (dh (t▸ok.g.keeps st) I.cls ?_) f.dbg);refine callWith_cls0 I.at_ st ?_;exact F0 I.at_ st I.set I.kept i j k l m n o p q c ok.nolimit d I.dbg e y I.sw r
theorem GH {n:Str}{a8:List Stmt}{ao ap ai aj lp p:Pos}(ok:P.OK2) (I:InitOK P D N mN sf p1 p2 p3 p4) (gn:GN C "Shelf") (sl:Slot C i n)
  (hs:∀env,dQ (.List [.Call (.Name "Shelf" ao) [] [] ai,.Call (.Name "Shelf" ap) [] [] aj] lp) (some (.Name n p)) pos.line env=pure false) (hd:2<=d)
  (h:∀B',P.B.StaysIn B'->nV (PEnv.mk P.prog P.w B' P.mg P.mb P.mc) C d a8 (loc.set i (some (.ref 2))) [.dict [],.dict [],.list [.obj 0,.obj 1]] (λV _ _=>V=.ret (.bool true))) :
  nV P C d (.Assign [.Name n p] (.List [.Call (.Name "Shelf" ao) [] [] ai,.Call (.Name "Shelf" ap) [] [] aj] lp) pos::a8) loc [] (λV _ _=>V=.ret (.bool true)):=λA E env ι s w e=>by
 have b1:ι=[]:=bI.mp w.hr.len;subst b1;have a9:A.depth+2<de:=by have:=w.room.depth;exact z122 hd this
 refine dM (gH (wpAny_List (spliced_more (yQ (C:=C) ok.toOK I w.hr.base e.kind e.names e.glob gn a9 λh1 bk x1 ak k1 l=>spliced_more (yQ (C:=C) ok.toOK I (λb o F=>l.keep b o (w.hr.base b o F)) e.kind e.names e.glob gn a9 λX ae x2 al k2 t=>spliced_none ⟨by show 2<=ag;decide+kernel,?_⟩) rfl) rfl)) (hs env));show aP _ _ _ _ _ { s with heap:=X.push { cls:=.type "list",data:=.seq (aW [db x1,db x2]) },toks:=ae };have ac:(X.push { cls:=.type "list",data:=.seq (aW [db x1,db x2]) }).get? X.objs.size=some { cls:=.type "list",data:=.seq (aW [db x1,db x2]) }:=ba _ rfl;have T:∀b o,X.get? b=some o->(X.push { cls:=.type "list",data:=.seq (aW [db x1,db x2]) }).get? b=some o:=λb o F=>ay _ F;have J:X.get? X.objs.size=none:=oR _;generalize X.push { cls:=.type "list",data:=.seq (aW [db x1,db x2]) }=R at ac T ⊢;generalize X.objs.size=M at ac J ⊢;have a5:∀b o,h1.get? b=some o->R.get? b=some o:=λb o F=>T b o (t.keep b o F);have a4:∀b o,s.heap.get? b=some o->R.get? b=some o:=λb o F=>a5 b o (l.keep b o F);have no:∀{h:Heap}{a b:Addr}{o:Obj},h.get? a=some o->h.get? b=none->a≠b:=λ{h a b o} ea F z=>by rw[z,F] at ea;cases ea
 have H:∀{h h':Heap}{a:Addr},(∀b o,h.get? b=some o->h'.get? b=some o)->h'.get? a=none->h.get? a=none:=λ{h h' a} k z=>by
  cases y:h.get? a with
  | none=>rfl
  | some o=>rw[k a o y] at z;cases z
 have n2:s.heap.get? k2=none:=H l.keep t.newK;have n3:s.heap.get? M=none:=H l.keep (H t.keep J);refine oJ (l.obj) λo1 ad b6 bd b8 bb bf=>?_;refine oJ (t.obj) λo2 ar b7 be b9 bc bg=>?_;have kk:k1≠k2:=no l.dict t.newK;have b2:k1≠M:=no (t.keep _ _ l.dict) J;have b3:k2≠M:=no t.dict J;refine aK w.fr λV aw ab=>?_;generalize hZ:env.locals::C.vars.filterMap (λo=>o.bind λy=>env.cells.lookup y)=Z;have a6:∀a∈fAs V++Z,P.B.get? a=none/\∃o,s.heap.get? a=some o:=λa Q=>by
  rcases yd Q with Q|Q
  ·refine aK (cz.mp Q) λen S z=>mI (ab en S).2 λL o Y q2 q3 q4 q5=>?_;rw[z] at Y;cases Y;exact⟨q2,o,q3⟩
  ·rw[<-hZ] at Q;rcases yg Q with z|z
   ·rw[z];exact⟨e.newL,e.ns.elim λm ns=>nS ns λo _ _ O _=>⟨o,O⟩⟩
   ·refine aK (cz.mp z) λy hm hc=>?_;cases y with
    | none=>cases hc
    | some y=>exact⟨(e.offC y a hm hc).2.2,(e.isC y a hm hc).elim λov ic=>aK ic λo O _=>⟨o,O⟩⟩
 generalize hB:hideAll R (fAs V++Z++[k1,k2,M])=B';have out:∀{b:Addr}{o:Obj},R.get? b=some o->b∉fAs V++Z->b≠k1->b≠k2->b≠M->B'.get? b=some o:=λ{b o} F Y q2 q3 q4=>hB▸hideAll_get _ F λm=>by
  rcases yd m with m|m
  ·exact Y m
  ·rcases yg m with z|m
   ·exact q2 z
   rcases yg m with z|m
   ·exact q3 z
   ·exact q4 (yb m)
 have a3:∀{b:Addr},s.heap.get? b=none->b∉fAs V++Z:=λ{b} z m=>(a6 b m).2.elim λo O=>by rw[z] at O;cases O
 have gone:∀{b:Addr},b∈fAs V++Z++[k1,k2,M]->B'.get? b=none:=λm=>hB▸hideAll_none _ m;have bh:B'.StaysIn R:=λb o F=>of_hideAll _ (hB▸F);have U:P.B.StaysIn B':=λb o F=>by have a0:=w.hr.base b o F;exact out (a4 b o a0) (λm=>by rw[(a6 b m).1] at F;cases F) (no a0 l.newK) (no a0 n2) (no a0 n3)
 have sh:∀{x dx k:Addr}{o:Obj},B'.get? x=some o->o.cls=.ref D->(∀c,o.data≠.cls c)->o.dict=some dx->dx≠x->B'.Ns1 dx (atName (.ref k))->OAt B' x k:=λ{x dx k o} Y q2 q3 q4 q5 q6=>by refine aK (I.isi) λK hK hb=>?_;refine nS (id q6) λod _ _ ax _=>?_;exact⟨⟨D,P.mg,ok.g.keeps U,I.cls,o,Y,q2,q3,.inr ⟨dx,q4,q5,q6⟩⟩,EE hb (hK.keeps U) Y q2 q3 q4 ax⟩
 have b4:∀{o:Obj},h1.get? ak=some o->B'.get? ak=some o:=λq=>out (a5 _ _ q) (a3 l.newD) l.dk (no q t.newK) (no (t.keep _ _ q) J);have b5:∀{o:Obj},X.get? al=some o->B'.get? al=some o:=λq=>out (T _ _ q) (a3 (H l.keep t.newD)) (λz=>by have:=t.newD;rw[z,l.dict] at this;cases this) t.dk (no q J);have a1:OAt B' x1 k1:=sh (out (a5 _ _ ad) (a3 l.newX) l.xk (no ad t.newK) (no (t.keep _ _ ad) J)) b6 bd b8 bb (bf.at λo q=>b4 q);have a2:OAt B' x2 k2:=sh (out (T _ _ ar) (a3 (H l.keep t.newX)) (λz=>by have:=t.newX;rw[z,l.dict] at this;cases this) t.xk (no ar J)) b7 be b9 bc (bg.at λo q=>b5 q);have low:∀a,s.heap.objs.size<=a->(a == sysModules)=false:=λa z=>by refine kB (ok.low) λb o hb hl=>?_;have:=ci (w.hr.base b o hb);rw[beq_eq_false_iff_ne];intro q;rw[q] at z;exact c9 _ (ah (eP hl this) z)
 have av:s.heap.objs.size<=k2:=aa l.hi (aa (aX (ci l.dict)) t.hi);have an:HR B' [k1,k2,M] [.dict [],.dict [],.list [.obj 0,.obj 1]] R:=by
  refine⟨bh,λa Q=>gone (yp (.inr Q)),?_,rfl,λj o ej=>?_⟩
  ·simp[kk,b2,b3]
  ·match j,ej with
   | 0,ej=>cases ej;exact⟨k1,rfl,low _ l.hi,eV,[],0,a5 _ _ l.dict,rfl⟩
   | 1,ej=>cases ej;exact⟨k2,rfl,low _ av,eV,[],0,T _ _ t.dict,rfl⟩
   | 2,ej=>cases ej;exact⟨M,rfl,[.ref x1,.ref x2],⟨0,ac⟩,_,_,rfl,by exact⟨x1,k1,rfl,rfl,a1⟩,_,_,rfl,by exact⟨x2,k2,rfl,rfl,a2⟩,rfl⟩
 have au:Post P.B [] s [] [] { s with heap:=R,toks:=ae }:=Post.keep w.hr a4;have e3:=e.step w.hr au;have G:∀{a:Addr}{o:Obj},s.heap.get? a=some o->a∉[k1,k2,M]:=λ{a o} ea m=>by
  rcases yg m with z|m
  ·exact no ea l.newK z
  rcases yg m with z|m
  ·exact no ea n2 z
  ·exact no ea n3 (yb m)
 have e':EnvR B' C env [k1,k2,M] R loc:=⟨e.kind,e.names,e.glob,e.blt,e3.ns,e.ns.elim λm ns=>kM ns λo _ _ O _ _=>G O,gone (yp (.inl (yp (.inr (hZ▸aR ..))))),
  λx c hm hc=>⟨(e.isC x c hm hc).elim λov ic=>aK ic λo O _=>G O,(e.offC x c hm hc).2.1,gone (yp (.inl (yp (.inr (hZ▸yi _ (cz.mpr ⟨some x,hm,hc⟩))))))⟩,e3.isC,e.apart,e.len,
  λj x hj=>aK (e3.vars j x hj) λov hs hv=>⟨ov,hs,λdd hd=>aK (hv dd hd) λv ev rv=>⟨v,ev,VR.rebase U _ _ (VR.mono (oH λ_ _ q=>q) n_ (List.nil_prefix) _ _ rv)⟩⟩⟩
 refine qx (P:=PEnv.mk P.prog P.w B' P.mg P.mb P.mc) an e' sl.lo sl.at_ sl.uniq sl.kind (v:=.ref 2) (by exact⟨M,rfl,rfl⟩:VR B' R [k1,k2,M] (.ref 2) (.ref M)) λs' ps am=>?_;have b0:qu A B' R [k1,k2,M]:=⟨V,aw,λen S=>⟨(ab en S).1,mI (ab en S).2 λL o Y q2 q3 q4 q5=>⟨L,o,Y,gone (yp (.inl (yp (.inl (cz.mpr ⟨en,S,Y⟩))))),a4 _ _ q3,q4,G q3⟩⟩⟩;have w':W B' A d [k1,k2,M] [.dict [],.dict [],.list [.obj 0,.obj 1]] { s with heap:=R,toks:=ae }:=⟨w.room,b0,an⟩;refine gs (h B' U A E env _ s' (w'.stepS e' ps am) am) λf s4 bl H4 bj az a7 e4 r4 q=>?_;have bi:P.B.StaysIn s4.heap:=λb o F=>a7.hr.base b o (U b o F);have pp:=ps.trans a7 e4.offOwn;refine⟨[],[],loc.map λ_=>none,az,⟨af _,⟨bi,(λa Q=>nomatch Q),eV,rfl,λj o ej=>by simp at ej⟩,λa o O hn=>?_,(λa Q=>nomatch Q),pp.same⟩,⟨e.kind,e.names,e.glob,e.blt,e4.ns,(λz=>nomatch z),e.newL,λx c hm hc=>⟨(λz=>nomatch z),(e.offC x c hm hc).2⟩,e4.isC,e.apart,by rw[ya];exact e.len,λj x hj=>aK (e4.vars j x hj) λov hs hv=>⟨ov,hs,λdd hd=>?_⟩⟩,?_,q⟩
 ·exact pp.kept a o (a4 a o O) λm=>(yd m).elim (λz=>hn (yp (.inl z))) (G O)
 ·rw[aq] at hd;refine aK (yf hd) λz _ z2=>?_;cases z2
 ·subst q;exact aK r4 λu hu r=>⟨u,hu,r⟩
end Mine
namespace Mine
open PySem
local macro_rules |`(tactic| walk_at"wp")=>do
 let pre <-("ss_nil ss_cons thenS_next thenS_ret s_asg s_asgT s_sto s_ite s_ret s_ret0 s_expr s_for whlK_ret forK_ret end_ret end_next k_bin1 k_bin2 k_cmp1 k_cmp2 k_c1 k_c2 k_c3 k_c4t k_c4f k_not k_neg k_and k_andt k_andf k_or k_ort k_orf k_call k_bi k_isi k_idx1 k_idx2 k_s1 k_s2n k_s2o k_s4n k_s4o k_s6 k_t1 k_t2n k_t2o k_t4n k_t4o k_tup k_lst k_m1 k_m2 k_e1 k_e2 k_cs k_cst k_csf k_it k_asg k_asgT k_sto1 k_sto2 k_sto3 k_sto4 k_ite k_itet k_itef k_ret k_exp k_whl k_whlt k_whlf e_cst e_n e_loc0 e_locS e_bin e_cmp e_cmp2 e_not e_neg e_and2 e_or2 e_call e_bi e_isi e_idx e_slc e_slcT e_rev e_tup e_lst e_dic0 e_dic1 k_d1 k_d3 r_enum e_meth e_comp es_nil es_cons cs_nil cs_cons withL_some b_add b_sub b_mul b_mod b_fdiv b_pow b_addT c_lt c_le c_gt c_ge c_eqI c_neI c_eqS c_neS c_eqB c_neB i_tup0 i_tup1 i_tup2 l_tup l_fro g_tup n_bool n_min n_max r_one r_two r_tup e_att k_att e_mcl k_mc1 k_mc2 e_dpop k_tm".splitOn " ").toArray.mapM λn=>`(Lean.Parser.Tactic.simpLemma| ↓ $(Lean.mkIdent n.toName):term)
 let post <-("set0 setS mapC mapN appC appN repS repZ sAc sAn zipC zipN zipM Bool.not_true Bool.not_false".splitOn " ").toArray.mapM λn=>`(Lean.Parser.Tactic.simpLemma| $(Lean.mkIdent n.toName):term)
 let all:Lean.TSyntaxArray [``Lean.Parser.Tactic.simpStar,``Lean.Parser.Tactic.simpErase,``Lean.Parser.Tactic.simpLemma]:=(pre++post).map λx=>⟨x.raw⟩
 `(tactic| try simp only[$all,*])
section
open PySem
abbrev CK (P:PEnv) (n:Nat):Fun:=λf a H Q=>g6 P n f a H Q XF
noncomputable def vA:MF:=⟨2,2,
 [.ite (.cmp .lt (.loc 1) (.bi .len [.loc 0])) [.ret (.idx (.loc 0) (.loc 1))] [],
 .ret (.n 0)]⟩
noncomputable def uT:MF:=⟨3,4,
 [.asg 3 (.bin .mod (.n 1) (.loc 2)),
 .asg 0 (.bin .mod (.loc 0) (.loc 2)),
 .whl (.cmp .gt (.loc 1) (.n 0)) [.ite (.cmp .eq (.bin .mod (.loc 1) (.n 2)) (.n 1)) [.asg 3 (.bin .mod (.bin .mul (.loc 3) (.loc 0)) (.loc 2))] [],
  .asg 0 (.bin .mod (.bin .mul (.loc 0) (.loc 0)) (.loc 2)),
  .asg 1 (.bin .fdiv (.loc 1) (.n 2))],
 .ret (.loc 3)]⟩
noncomputable def vh:MF:=⟨3,6,
 [.asg 3 (.lst []),
 .asg 4 (.n 7),
 .forr false [5] .range [.loc 2] [.asg 4 (.bin .mod (.bin .add (.bin .add (.bin .add (.bin .mul (.loc 4) (.n 48271)) (.call "_law_cell_at" [.loc 0,.bin .add (.loc 1) (.loc 5)])) (.bin .mul (.n 31) (.loc 5))) (.n 1)) (.n 2147483647)),
  .expr (.meth .append (.loc 3) [.loc 4])],
 .ret (.loc 3)]⟩
theorem oS (c:a.natAbs<2^200) (d:b.natAbs<2^200):IntMulOk a b :=
 IntMulOk.of_bits (aa (td c) (by decide)) (aa (td d) (by decide))
theorem qZ (h:b.natAbs<2^200):NoPy a b:=noPy (ah h (jf (by decide) (by decide)))
theorem FW {H H':Hp}{v:AV}{l:List AV}(p:H<+:H') (h:seqL H v=some l):seqL H' v=some l:=by
 cases v with
 | ref i =>
  have h:(match H[i]? with|some (.list l)=>some l|_=>none)=some l:=h;show(match H'[i]? with|some (.list l)=>some l|_=>none)=some l;cases e:H[i]? with
  | none=>rw[e] at h;cases h
  | some o =>
   rw[e] at h;refine cG (p) λt a=>?_;clear p;subst a;rw[bJ (ym e).1,e];exact h
 | fro m=>exact h
 | _=>cases h
theorem C5 {Q:PQ}(h:seqL H v=some l) (a:l.length<=1000) (q:Q (.int l.length) H):wpBi .len [v] H Q:=by
 cases v with
 | ref i =>
  have h:(match H[i]? with|some (.list l)=>some l|_=>none)=some l:=h;cases e:H[i]? with
  | none=>rw[e] at h;cases h
  | some o =>
   rw[e] at h;cases o with
   | list m=>cases h;rw[rY e];exact⟨by exact z123 a,q⟩
   | _=>cases h
 | fro m=>cases h;rw[l_fro];exact⟨by exact z123 a,q⟩
 | _=>cases h
theorem qU (h:seqL H v=some l):anyL H v=some l:=by
 cases v with
 | tup m=>cases h
 | _=>exact h
def vQ (Φ:Fun):Prop:=∀(v:AV) (l:List Int) (k:Int) (H:Hp) (Q:PQ),seqL H v=some (l.map .int)->0<=k->l.length<=63->Q (.int ((l[k.toNat]?).getD 0)) H->Φ "_law_cell_at" [v,.int k] H Q
theorem CU {l:List Int}{k:Int}{Q:PQ}(hv:seqL H v=some (l.map .int)) (b:0<=k) (c:l.length<=63) (h:Q (.int ((l[k.toNat]?).getD 0)) H):wpF Φ vA [v,.int k] H Q:=by
 ((refine⟨rfl,?_⟩;simp only[lst,aM,aO,am]))
 simp only[vA];walk_at"wp";refine C5 hv (by simp;exact z124 c) ?_;walk_at"wp";refine fR (λa=>?_) (λa=>?_)
 ·walk_at"wp";simp at a;refine oO (qU hv) (by simp;exact z125 c) b (z:=.int (l[k.toNat]'(by exact(eS b).mpr a))) (by simp) ?_;have e:l[k.toNat]?=some (l[k.toNat]'(by exact(eS b).mpr a)):=ak (by exact(eS b).mpr a);rw[e] at h;exact h
 ·walk_at"wp";simp at a;have e:l[k.toNat]?=none:=List.getElem?_eq_none (by exact z126 a);rw[e] at h;exact h
noncomputable def pw (b e m:Int):Int:=b^e.toNat%m
theorem sZ {x m:Int}(a:0<=x) (b:x<m) (c:m<=10^32):x.natAbs<2^200:=by
 have:x.natAbs<10^32:=by exact z127 a b c
 exact ah this (by decide)
def SPow (Φ:Fun):Prop:=∀(b e m:Int) (H:Hp) (Q:PQ),0<=e->1<=m->m<=10^32->Q (.int (pw b e m)) H->Φ "powered" [.int b,.int e,.int m] H Q
theorem yz (y m:Int) (k:Nat):(y%m)^k%m=y^k%m:=by
 induction k with
 | zero=>rw[gx,gx]
 | succ k ih=>rw[dE,dE,er,ih,fM _ (kr m),<-er]
theorem Fa (b f:Int) (e:Nat) (m:Int):(if e%2=1 then f*b%m else f)*(b*b%m)^(e/2)%m=f*b^e%m:=by
 have c:b^e=(b*b)^(e/2)*b^(e%2):=by
  have:b*b=b^2:=by rw[dE,dE,gx,iD]
  rw[this,<-Int.pow_mul,<-nK];congr 1;exact z128
 have d:∀(k:Nat) (x y:Int),x*(y%m)^k%m=x*y^k%m:=λk x y=>by rw[er,yz,<-er]
 rw[d,c];split
 ·rename_i a;rw[a,dE,gx,iD,er (f*b%m),fM _ (kr m),<-er];congr 1;rw[mH ((b*b)^(e/2)) b,jL]
 ·rename_i a;have:e%2=0:=by exact Nat.mod_two_ne_one.mp a
  rw[this,gx,jq]
theorem powered {Φ:Fun}{b e m:Int}{H:Hp}{Q:PQ}(B:0<=e) (o:1<=m) (t:m<=10^32) (h:Q (.int (pw b e m)) H):wpF Φ uT [.int b,.int e,.int m] H Q:=by
 ((refine⟨rfl,?_⟩;simp only[lst,aM,aO,am]))
 simp only[uT];walk_at"wp";simp only[gP (show(0:Int)<=m by exact aj o)];refine⟨by exact Ne.symm (dF o),by exact Ne.symm (dF o),?_⟩;refine oy (λn loc H'=>∃(f d:Int) (g:Nat),loc=[some (.int d),some (.int g),some (.int m),some (.int f)]/\H'=H/\0<=f/\f<m/\0<=d/\d<m/\g=n/\f*d^g%m=b^e.toNat%m) e.toNat ⟨1%m,b%m,e.toNat,?_,rfl,aT _ (by exact Ne.symm (dF o)),yk _ (by exact fL o),aT _ (by exact Ne.symm (dF o)),yk _ (by exact fL o),rfl,?_⟩ ?_
 ·rw[bb B]
 ·rw[er,fM _ (kr m),yz,<-er,iD]
 ·intro n loc H' p;refine lG (p) λf d g x y j k v=>?_;clear p;subst x;subst y;refine jA (v) λq r w hi=>?_;clear v;subst w;have C:f.natAbs<2^200:=sZ j k t;have u:d.natAbs<2^200:=sZ q r t;walk_at"wp";refine fR (λi=>?_) (λi=>?_)
  ·walk_at"wp";simp only[gP (show(0:Int)<=2 by decide)];refine⟨by decide,?_⟩;have st:=Fa d f g m;have A:((g:Int)/2)=((g/2:Nat):Int):=by exact z129
   have s:g/2<g:=by exact z130 i
   have a:=aT (d*d) (show m≠0 by exact z131 j k);have c:=yk (d*d) (show 0<m by exact aU q r);refine fR (λz=>?_) (λz=>?_)
   ·walk_at"wp";simp only[gP (show(0:Int)<=m by exact z132 a c),jv (show(0:Int)<=2 by decide)];have l:g%2=1:=by exact Eq.symm ((λ{m n}=>gN.mp) (id (Eq.symm z)))
    rw[if_pos l] at st;refine⟨oS C u,by exact z131 a c,oS u u,by exact z131 a c,by decide,qZ (by decide),?_⟩;exact nX (g/2) s ⟨f*d%m,d*d%m,g/2,by rw[A],rfl,aT _ (by exact z131 a c),yk _ (by exact aU a c),a,c,rfl,by rw[st];exact hi⟩
   ·walk_at"wp";simp only[gP (show(0:Int)<=m by exact z132 a c),jv (show(0:Int)<=2 by decide)];have l:¬ g%2=1:=by exact ne_of_apply_ne Int.ofNat z
    rw[if_neg l] at st;refine⟨oS u u,by exact z131 a c,by decide,qZ (by decide),?_⟩;exact nX (g/2) s ⟨f,d*d%m,g/2,by rw[A],rfl,j,k,a,c,rfl,by rw[st];exact hi⟩
  ·walk_at"wp";have:g=0:=by exact z133 i
   subst this;rw[gx,jq,ko j k] at hi;show Q (.int f) H';rw[hi];exact h
structure CellsB (B:Int) (cs:List Int) (n:Nat):Prop where
 len:cs.length=n
 bd:∀c∈cs,0<=c/\c<B
abbrev nU (cs:List Int) (n:Nat):Prop:=CellsB 4294967296 cs n
theorem CellsB.up {cs:List Int}{n:Nat}(h:CellsB 2147483647 cs n):nU cs n:=⟨h.len,λc a=>by have:=h.bd c a;exact z134 this⟩
def uC (Φ:Fun):Prop:=∀(v:AV) (l:List Int) (a:Int) (n:Nat) (H:Hp) (Q:PQ),seqL H v=some (l.map .int)->0<=a->l.length<=63->n<=1000->(∀cs,CellsB 2147483647 cs n->Q (.ref H.length) (H++[.list (cs.map .int)]))->Φ "_law_mixed" [v,.int a,.int n] H Q
theorem Bt {Φ:Fun}(c:vQ Φ){v:AV}{l:List Int}{a:Int}{n:Nat}{H:Hp}{Q:PQ}(hv:seqL H v=some (l.map .int)) (B:0<=a) (C:l.length<=63) (r:n<=1000) (h:∀cs,CellsB 2147483647 cs n->Q (.ref H.length) (H++[.list (cs.map .int)])):wpF Φ vh [v,.int a,.int n] H Q:=by
 ((refine⟨rfl,?_⟩;simp only[lst,aM,aO,am]))
 simp only[vh];walk_at"wp";refine⟨by decide,by exact z135,by exact z136 r,?_⟩;refine lC (λi loc H'=>∃(cs:List Int) (b:Int) (o:Option AV),CellsB 2147483647 cs i/\0<=b/\b<2147483647/\H'=H++[.list (cs.map .int)]/\loc=[some v,some (.int a),some (.int n),some (.ref H.length),some (.int b),o]) ⟨[],7,none,⟨rfl,λc d=>by simp at d⟩,by decide,by decide,rfl,rfl⟩ ?_;intro i loc H' e;refine lG (e) λcs b o d z A j k=>?_;clear e;subst j;subst k;refine⟨trivial,λy g=>?_,λhi=>?_⟩
 ·have f:i<n:=by have:=(ym g).1;simpa using this
  rw[aq,g0 (by simpa using f)] at g;simp only[dT,dR] at g;subst g;refine⟨[.int i],rfl,?_⟩;walk_at"wp";refine⟨oU (aw (show b.natAbs<=2147483647 by exact z137 z A) (by decide)),?_⟩;refine c v l _ _ _ (FW (bE _ _) hv) (by exact z138 B) C ?_;walk_at"wp";simp only[gP (show(0:Int)<=2147483647 by decide)];refine⟨oU (by decide),by decide,?_⟩;generalize s:(b*48271+(l[(a+i).toNat]?).getD 0+31*i+1)%2147483647=x;have t:0<=x:=by rw[<-s];exact aT _ (by decide)
  have u:x<2147483647:=by rw[<-s];exact yk _ (by decide)
  have q:(H++[AObj.list (cs.map AV.int)])[H.length]?=some (.list (cs.map AV.int)):=by simp
  refine⟨mr q,?_⟩;rw[sJ q];refine⟨by rw[ya,d.len];unfold ag;exact z139 r f,?_⟩;walk_at"wp";refine jG ⟨cs++[x],x,some (.int i),⟨by simp[d.len],λw p=>?_⟩,t,u,?_,rfl⟩
  ·rcases yd p with m|m
   ·exact d.bd w m
   ·simp at m;rw[m];exact⟨t,u⟩
  ·rw[cR _ _ (az _)];simp
 ·walk_at"wp";have:i=n:=by simpa using hi
  subst this;exact h cs d
end
section
open PySem
noncomputable def vi:MF:=⟨3,6,
 [.asg 3 (.lst []),
 .whl (.cmp .gt (.loc 1) (.n 0)) [.expr (.meth .append (.loc 3) [.bin .mod (.loc 1) (.n 2)]),
  .asg 1 (.bin .fdiv (.loc 1) (.n 2))],
 .asg 4 (.bin .mod (.n 1) (.loc 2)),
 .forr false [5] .revd [.loc 3] [.asg 4 (.bin .mod (.bin .mul (.loc 4) (.loc 4)) (.loc 2)),
  .ite (.cmp .eq (.loc 5) (.n 1)) [.asg 4 (.bin .mod (.bin .mul (.loc 4) (.loc 0)) (.loc 2))] []],
 .ret (.loc 4)]⟩
noncomputable def vj:MF:=⟨3,5,
 [.ite (.cmp .ne (.call "_law_power" [.loc 1,.bin .sub (.loc 0) (.n 1),.loc 0]) (.n 1)) [.ret (.cst (.bool false))] [],
 .forr true [3,4] .plain [.loc 2] [.ite (.cmp .eq (.call "_law_power" [.loc 1,.bin .fdiv (.bin .sub (.loc 0) (.n 1)) (.loc 3),.loc 0]) (.n 1)) [.ret (.cst (.bool false))] []],
 .ret (.cst (.bool true))]⟩
noncomputable def vF:MF:=⟨1,2,
 [.asg 1 (.n 2),
 .whl (.cmp .le (.bin .mul (.loc 1) (.loc 1)) (.loc 0)) [.ite (.cmp .eq (.bin .mod (.loc 0) (.loc 1)) (.n 0)) [.ret (.cst (.bool false))] [],
  .asg 1 (.bin .add (.loc 1) (.n 1))],
 .ret (.cmp .gt (.loc 0) (.n 1))]⟩
noncomputable def vB:MF:=⟨1,4,
 [.asg 1 (.lst []),
 .asg 2 (.n 2),
 .whl (.cmp .gt (.loc 0) (.n 1)) [.asg 3 (.n 0),
  .whl (.cmp .eq (.bin .mod (.loc 0) (.loc 2)) (.n 0)) [.asg 0 (.bin .fdiv (.loc 0) (.loc 2)),
   .asg 3 (.bin .add (.loc 3) (.n 1))],
  .ite (.cmp .gt (.loc 3) (.n 0)) [.expr (.meth .append (.loc 1) [.tup [.loc 2,.loc 3]])] [],
  .asg 2 (.bin .add (.loc 2) (.n 1))],
 .ret (.bi .tuple [.loc 1])]⟩
noncomputable def vL:MF:=⟨2,4,
 [.ite (.cmp .eq (.loc 0) (.n 2)) [.ret (.tup [.n 2,.cst (.str "first"),.tup []])] [],
 .asg 2 (.call "_law_factors" [.bin .sub (.loc 0) (.n 1)]),
 .asg 3 (.bin .add (.n 1) (.bin .mod (.loc 1) (.bin .sub (.loc 0) (.n 1)))),
 .whl (.not (.call "_law_round" [.loc 0,.loc 3,.loc 2])) [.asg 3 (.bin .add (.bin .mod (.loc 3) (.bin .sub (.loc 0) (.n 1))) (.n 1))],
 .ret (.tup [.loc 0,.cst (.str "prime"),.tup [.loc 3,.loc 2]])]⟩
noncomputable def rC:MF:=⟨2,6,
 [.asg 2 (.comp false 1 (.loc 6) .range [.n 2,.loc 0] [.cmp .eq (.bin .mod (.loc 0) (.loc 6)) (.n 0)]),
 .asg 3 (.comp false 1 (.loc 6) .range [.n 2,.bin .sub (.loc 0) (.n 1)] [.cmp .eq (.bin .mod (.bin .mul (.loc 6) (.loc 6)) (.loc 0)) (.n 1)]),
 .asg 4 (.idx (.loc 2) (.bin .mod (.bin .fdiv (.loc 1) (.n 4)) (.bi .len [.loc 2]))),
 .ite (.and2 (.cmp .eq (.bin .mod (.loc 1) (.n 4)) (.n 0)) (.cmp .gt (.bi .len [.loc 3]) (.n 0))) [.ret (.tup [.loc 0,.cst (.str "root"),.tup [.idx (.loc 3) (.bin .mod (.bin .fdiv (.loc 1) (.n 4)) (.bi .len [.loc 3]))]])] [],
 .ite (.cmp .gt (.bin .mod (.loc 1) (.n 4)) (.n 1)) [.ret (.tup [.loc 0,.cst (.str "split"),.tup [.loc 4,.bin .fdiv (.loc 0) (.loc 4)]])] [],
 .asg 5 (.bin .add (.n 1) (.bin .mod (.bin .fdiv (.loc 1) (.n 4)) (.bin .sub (.loc 0) (.n 1)))),
 .whl (.cmp .eq (.call "_law_power" [.loc 5,.bin .sub (.loc 0) (.n 1),.loc 0]) (.n 1)) [.asg 5 (.bin .add (.bin .mod (.loc 5) (.bin .sub (.loc 0) (.n 1))) (.n 1))],
 .ret (.tup [.loc 0,.cst (.str "power"),.tup [.loc 5]])]⟩
noncomputable def vz:MF:=⟨1,5,
 [.asg 1 (.lst [.tup [.n 65537,.n 3,.tup [.tup [.n 2,.n 16]]],.tup [.n 998244353,.n 3,.tup [.tup [.n 2,.n 23],.tup [.n 7,.n 1],.tup [.n 17,.n 1]]]]),
 .asg 1 (.bin .add (.loc 1) (.lst [.tup [.n 2013265921,.n 31,.tup [.tup [.n 2,.n 27],.tup [.n 3,.n 1],.tup [.n 5,.n 1]]],.tup [.n 4179340454199820289,.n 3,.tup [.tup [.n 2,.n 57],.tup [.n 29,.n 1]]]])),
 .asgT [2,3,4] (.idx (.loc 1) (.bin .mod (.loc 0) (.n 4))),
 .asg 3 (.call "_law_power" [.loc 3,.idx (.lst [.n 1,.n 11,.n 13,.n 19,.n 23]) (.bin .mod (.bin .fdiv (.loc 0) (.n 4)) (.n 5)),.loc 2]),
 .ret (.tup [.loc 2,.cst (.str "prime"),.tup [.loc 3,.loc 4]])]⟩
noncomputable def vK:MF:=⟨2,4,
 [.asg 2 (.bin .add (.n 2) (.bin .mod (.bin .add (.bin .mul (.loc 0) (.n 2147483647)) (.loc 1)) (.bin .pow (.n 10) (.n 15)))),
 .asg 3 (.bin .add (.n 2) (.bin .mod (.bin .add (.bin .mul (.loc 1) (.n 2147483647)) (.loc 0)) (.bin .sub (.bin .pow (.n 10) (.n 15)) (.n 9)))),
 .ite (.cmp .eq (.bin .mod (.loc 0) (.n 3)) (.n 0)) [.ret (.tup [.bin .mul (.loc 2) (.loc 3),.cst (.str "split"),.tup [.loc 2,.loc 3]])] [],
 .ite (.cmp .eq (.bin .mod (.loc 0) (.n 3)) (.n 1)) [.ret (.tup [.bin .mul (.loc 2) (.loc 3),.cst (.str "power"),.tup [.loc 2]])] [],
 .ret (.tup [.bin .sub (.bin .mul (.bin .add (.loc 3) (.n 1)) (.bin .add (.loc 3) (.n 1))) (.n 1),.cst (.str "root"),.tup [.bin .add (.loc 3) (.n 1)]])]⟩
noncomputable def oW:MF:=⟨1,1,
 [.ite (.cmp .eq (.idx (.loc 0) (.n 1)) (.cst (.str "prime"))) [.ret (.comp true 2 (.loc 1) .plain [.idx (.idx (.loc 0) (.n 2)) (.n 1)] [])] [],
 .ret (.lst [])]⟩
noncomputable def vw:MF:=⟨3,5,
 [.whl (.cmp .gt (.bi .len [.loc 1]) (.n 0)) [.asg 3 (.meth .pop (.loc 1) []),
  .ite (.cmp .notIn (.loc 3) (.loc 0)) [.asg 4 (.idx (.loc 2) (.bin .mod (.bin .add (.loc 3) (.bi .len [.loc 0])) (.bi .len [.loc 2]))),
   .ite (.call "_law_is_prime" [.loc 3]) [.sto (.loc 0) (.loc 3) (.call "_law_prime_row" [.loc 3,.loc 4])] [.sto (.loc 0) (.loc 3) (.call "_law_parted_row" [.loc 3,.loc 4])],
   .expr (.meth .extend (.loc 1) [.call "_law_needs" [.idx (.loc 0) (.loc 3)]])] []],
 .ret (.comp false 1 (.idx (.loc 0) (.loc 5)) .plain [.bi .sorted [.loc 0]] [])]⟩
noncomputable def oV:MF:=⟨1,4,
 [.asg 1 (.dic0),
 .asg 2 (.comp false 1 (.bin .add (.n 2) (.bin .mod (.bin .fdiv (.idx (.loc 0) (.loc 4)) (.n 6)) (.idx (.lst [.n 40,.n 398]) (.bin .mod (.bin .fdiv (.idx (.loc 0) (.loc 4)) (.n 2400)) (.n 2))))) .range [.bin .add (.n 1) (.bin .mod (.idx (.loc 0) (.n 0)) (.n 5))] []),
 .ite (.cmp .eq (.bin .mod (.idx (.loc 0) (.n 6)) (.n 4)) (.n 1)) [.asg 3 (.call "_law_big_row" [.bin .fdiv (.idx (.loc 0) (.n 6)) (.n 4)]),
  .sto (.loc 1) (.idx (.loc 3) (.n 0)) (.loc 3),
  .expr (.meth .extend (.loc 2) [.call "_law_needs" [.loc 3]])] [],
 .ite (.cmp .eq (.bin .mod (.idx (.loc 0) (.n 7)) (.n 4)) (.n 1)) [.asg 3 (.call "_law_great_row" [.idx (.loc 0) (.n 7),.idx (.loc 0) (.n 5)]),
  .sto (.loc 1) (.idx (.loc 3) (.n 0)) (.loc 3)] [],
 .ret (.call "_law_closed" [.loc 1,.loc 2,.loc 0])]⟩
theorem dG {o:AObj}:(H++[o])[H.length]?=some o:=by simp
theorem bR {t:Hp}:H<+:H++t:=bE _ _
theorem lU {H H':Hp}{i:Nat}{o:AObj}(p:H<+:H') (h:H.length<=i):H<+:H'.set i o:=by refine cG (p) λt a=>?_;clear p;subst a;rw[cR _ _ h];exact bE _ _
theorem dJ {H H':Hp}{i:Nat}{o:AObj}(p:H<+:H') (h:H[i]?=some o):H'[i]?=some o:=by refine cG (p) λt a=>?_;clear p;subst a;rw[bJ (ym h).1];exact h
theorem szL {n:Nat}(h:n<=1000):n<=ag:=by unfold ag;exact z140 h
theorem szB {n:Nat}(h:n<=100000):n<=ag:=by unfold ag;exact z141 h
noncomputable def hv (l:List Int) (a:Nat):Nat:=l.foldl (λa x=>2*a+x.toNat) a
theorem xj (l:List Int) (x:Int) (a:Nat):hv (l++[x]) a=2*hv l a+x.toNat:=by simp[hv,iw]
theorem Dl (l:List Int) (x:Int) (a:Nat):hv (x::l) a=hv l (2*a+x.toNat):=rfl
def p_ (Φ:Fun):Prop:=∀(b e m:Int) (H:Hp) (Q:PQ),b.natAbs<2^200->0<=e->e<10^32->1<=m->m<=10^32->Q (.int (pw b e m)) H->Φ "_law_power" [.int b,.int e,.int m] H Q
theorem power {Φ:Fun}{b e m:Int}{H:Hp}{Q:PQ}(R:b.natAbs<2^200) (N:0<=e) (O:e<10^32) (v:1<=m) (M:m<=10^32) (h:∀H',H<+:H'->Q (.int (pw b e m)) H'):wpF Φ vi [.int b,.int e,.int m] H Q:=by
 ((refine⟨rfl,?_⟩;simp only[lst,aM,aO,am]))
 simp only[vi];walk_at"wp";refine⟨by decide,?_⟩;refine oy (λn loc H'=>∃(bs:List Int),loc=[some (.int b),some (.int n),some (.int m),some (.ref H.length),none,none]/\H'=H++[.list (bs.map .int)]/\(∀x∈bs,x=0\/x=1)/\hv bs.reverse n=e.toNat/\n*2^bs.length<=e.toNat) e.toNat ⟨[],by rw[bb N],rfl,(λx g=>by cases g),rfl,by simp⟩ ?_;intro n loc H' k;refine pT (k) λbs w j l I q=>?_;clear k;subst w;subst j;walk_at"wp";have t:(H++[AObj.list (bs.map AV.int)])[H.length]?=some (.list (bs.map AV.int)):=dG;refine fR (λu=>?_) (λu=>?_)
 ·walk_at"wp";have D:bs.length<=200:=by
   rcases cN bs.length 200 with h|h
   ·exact bw h
   ·exfalso;have p:2^200<=2^bs.length:=jf (by decide) h;have s:2^bs.length<=n*2^bs.length:=Nat.le_mul_of_pos_left _ (by exact fW.mp u);have P:e.toNat<10^32:=by exact z142 O
    have T:(10:Nat)^32<2^200:=by decide
    exact z143 q p s P
  refine⟨mr t,?_⟩;walk_at"wp";refine⟨by decide,?_⟩;rw[sJ t];refine⟨szL (by simp;exact z144 D),?_⟩;walk_at"wp";refine⟨by decide,mq (by decide),?_⟩
  (simp only[gP,jv,bV])
  refine nX (n/2) (by exact z130 u) ⟨bs++[(n:Int)%2],by rw[show((n:Int)/2)=((n/2:Nat):Int) by exact z129],?_,λx g=>?_,?_,?_⟩
  ·rw[cR _ _ (az _)];simp
  ·rcases yd g with g|g
   ·exact l x g
   ·rw[yb g];exact z145
  ·rw[fP,List.reverse_singleton,mD,Dl,<-I];congr 1;exact z146
  ·rw[aC,fv,j9];have:n/2*(2^bs.length*2)=(n/2*2)*2^bs.length:=by rw[gr (2^bs.length) 2,iE]
   rw[this];exact aa (gS _ (by exact z147)) q
 ·walk_at"wp";have S:n=0:=by exact z133 u
  subst S;refine⟨by exact Ne.symm (dF v),?_⟩;rw[AE t];simp only[gP (show(0:Int)<=m by exact aj v)];have E:∀(a:Nat) (x:Int),x=0\/x=1->(if x=1 then (b^a%m*(b^a%m)%m)*b%m else b^a%m*(b^a%m)%m)=b^(2*a+x.toNat)%m:=by
   intro a x g;have s:b^a%m*(b^a%m)%m=b^(2*a)%m:=by rw[<-er,<-nK];congr 2;exact z148
   rcases g with rfl|rfl
   ·rw[if_neg (by decide),s];rfl
   ·rw[if_pos rfl,s,er,fM _ (kr m),<-er,<-dE];rfl
  refine lC (λi loc H'=>∃(f:Int) (o:Option AV),H'=H++[AObj.list (bs.map .int)]/\0<=f/\f<m/\f=b^hv (bs.reverse.take i) 0%m/\loc=[some (.int b),some (.int 0),some (.int m),some (.ref H.length),some (.int f),o]) ⟨1%m,none,rfl,aT _ (by exact Ne.symm (dF v)),yk _ (by exact fL v),by simp[hv],rfl⟩ ?_;intro i loc H' k;refine mI (k) λf o j A B C z=>?_;clear k;subst j;subst z;refine⟨t,λy K=>?_,λhi=>?_⟩
  ·rw[<-List.map_reverse,aq] at K;refine aK (yf K) λx g j=>?_;subst j;have G:x=0\/x=1:=l x (by have:=yc g;simpa using this);have J:bs.reverse.take (i+1)=bs.reverse.take i++[x]:=by rw[cM,g];rfl
   have L:f.natAbs<2^200:=sZ A B M;have c:=aT (f*f) (show m≠0 by exact z131 A B);have d:=yk (f*f) (show 0<m by exact aU A B);have F:(f*f%m).natAbs<2^200:=sZ c d M;have r:=E (hv (bs.reverse.take i) 0) x G;rw[<-C] at r;refine⟨[.int x],rfl,?_⟩;walk_at"wp";refine⟨oS L L,by exact z131 c d,?_⟩;simp only[gP (show(0:Int)<=m by exact z132 c d)];refine fR (λp=>?_) (λp=>?_)
   ·walk_at"wp";refine⟨oS F R,by exact z131 c d,?_⟩;simp only[gP (show(0:Int)<=m by exact z132 c d)];rw[if_pos p] at r;exact jG ⟨_,_,rfl,aT _ (by exact z131 c d),yk _ (by exact aU c d),by rw[J,xj];exact r,rfl⟩
   ·walk_at"wp";rw[if_neg p] at r;exact jG ⟨_,_,rfl,c,d,by rw[J,xj];exact r,rfl⟩
  ·walk_at"wp";have D:bs.reverse.take i=bs.reverse:=be (by rw[hi];simp);rw[D,I] at C;rw[C];exact h _ bR
noncomputable def prAV (p:Int×Int):AV:=.tup [.int p.1,.int p.2]
noncomputable def psT (ps:List (Int×Int)):AV:=.tup (ps.map prAV)
noncomputable def jV (n b:Int) (ps:List (Int×Int)):Bool:=decide (pw b (n-1) n=1)&&ps.all λp=>!decide (pw b ((n-1)/p.1) n=1)
def tS (Φ:Fun):Prop:=∀(n b:Int) (ps:List (Int×Int)) (H:Hp) (Q:PQ),2<=n->n<=10^32->b.natAbs<2^200->(∀p∈ps,1<=p.1/\p.1.natAbs<2^200)->Q (.bool (jV n b ps)) H->Φ "_law_round" [.int n,.int b,psT ps] H Q
theorem As {Φ:Fun}(c:p_ Φ){n b:Int}{ps:List (Int×Int)}{H:Hp}{Q:PQ}(l:2<=n) (m:n<=10^32) (v:b.natAbs<2^200) (z:∀p∈ps,1<=p.1/\p.1.natAbs<2^200) (h:Q (.bool (jV n b ps)) H):wpF Φ vj [.int n,.int b,psT ps] H Q:=by
 unfold psT
 ((refine⟨rfl,?_⟩;simp only[lst,aM,aO,am]))
 simp only[vj];walk_at"wp";refine c b (n-1) n H _ v (by exact z149 l) (by exact nJ m) (by exact aj l) m ?_;walk_at"wp";refine oY (λq=>?_) (λq=>?_)
 ·walk_at"wp";rw[show jV n b ps=false by simp[jV,q]] at h;exact h
 walk_at"wp";have A:jV n b ps=ps.all λp=>!decide (pw b ((n-1)/p.1) n=1):=by simp[jV,q]
 rw[A] at h;refine lC (λi loc H'=>H'=H/\(∃x o2,loc=[some (.int n),some (.int b),some (.tup (ps.map prAV)),x,o2])/\(ps.drop i).all (λp=>!decide (pw b ((n-1)/p.1) n=1))=ps.all λp=>!decide (pw b ((n-1)/p.1) n=1)) ⟨rfl,⟨none,none,rfl⟩,by simp⟩ ?_;intro i loc H' g;refine fT (g) λo k f=>?_;clear g;subst o;refine kA (k) λx o2 d=>?_;clear k;subst d;refine⟨trivial,λy w=>?_,λhi=>?_⟩
 ·rw[aq] at w;refine aK (yf w) λp j d=>?_;subst d;refine cG (ym j) λs e=>?_;have a:=z p (yc j);rw[bp s,e,lO] at f;refine⟨[.int p.1,.int p.2],rfl,?_⟩;walk_at"wp";refine⟨by exact z150 a,qZ a.2,?_⟩;simp only[jv (show(0:Int)<=p.1 by exact z151 a)];have t:0<=(n-1)/p.1:=i3 (by exact z149 l) (by exact z151 a);have u:(n-1)/p.1<=n-1:=Int.ediv_le_self _ (by exact z149 l);refine c b ((n-1)/p.1) n H' _ v t (by exact z152 m u) (by exact z153 t u) m ?_;walk_at"wp";refine fR (λr=>?_) (λr=>?_)
  ·walk_at"wp";rw[show(!decide (pw b ((n-1)/p.1) n=1))=false by simp[r],cj] at f;rw[<-f] at h;exact h
  ·walk_at"wp";rw[show(!decide (pw b ((n-1)/p.1) n=1))=true by simp[r],dB] at f;exact jG ⟨rfl,⟨_,_,rfl⟩,f⟩
 ·walk_at"wp";have:ps.drop i=[]:=by rw[hi];simp
  rw[this] at f;rw[<-f] at h;exact h
end
section
open PySem
noncomputable def isPB (n:Nat):Bool:=decide (1<n)&&(bG n).all λd=>decide (d<2)||!decide (n%d=0)
theorem zj {n d:Nat}(c:2<=d) (b:d<n) (h:n%d=0):isPB n=false:=by
 cases e:isPB n with
 | false=>rfl
 | true =>
  simp only[isPB,aS,aN,ch,fS,decide_eq_true_eq,cT,decide_eq_false_iff_not] at e;rcases e.2 d b with a|a
  ·lia
  ·exact absurd h a
theorem uQ {n:Nat}(c:1<n) (h:∀d,2<=d->d<n->n%d≠0):isPB n=true:=by
 simp only[isPB,aS,aN,ch,fS,decide_eq_true_eq,cT,decide_eq_false_iff_not];refine⟨c,λd b=>?_⟩;rcases cN d 2 with a|a
 ·exact .inl a
 ·exact .inr (h d a b)
theorem xp {n:Nat}(n2:2<=n) (h:isPB n=false):∃d,2<=d/\d<n/\n%d=0:=by apply Classical.byContradiction;intro e;have:isPB n=true:=uQ (by exact j_ n2) λd a b c=>e ⟨d,a,b,c⟩;rw[this] at h;cases h
def SIsP (Φ:Fun):Prop:=∀(n:Nat) (H:Hp) (Q:PQ),2<=n->n<=1000000->Q (.bool (isPB n)) H->Φ "_law_is_prime" [.int n] H Q
theorem Ew {Φ:Fun}{n:Nat}{H:Hp}{Q:PQ}(n2:2<=n) (y:n<=1000000) (h:Q (.bool (isPB n)) H):wpF Φ vF [.int n] H Q:=by
 ((refine⟨rfl,?_⟩;simp only[lst,aM,aO,am]))
 simp only[vF];walk_at"wp";refine oy (λk loc H'=>∃a:Nat,k=n-a/\2<=a/\a<=n/\H'=H/\loc=[some (.int n),some (.int a)]/\∀d,2<=d->d<a->n%d≠0) (n-2) ⟨2,rfl,by decide,by assumption,rfl,rfl,λd s t=>by exact z154 s t⟩ ?_;intro k loc H' i;refine oJ (i) λa p b m q r u=>?_;clear i;subst p;subst q;subst r;walk_at"wp";refine⟨oU (by exact z155 y m),?_⟩;refine fR (λg=>?_) (λg=>?_)
 ·have j:a*a<=n:=by
   have:((a*a:Nat):Int)<=n:=by rw[fu];exact g
   exact br.mp this
  have f:a<n:=by have:2*a<=a*a:=gS _ b;exact z156 b j this
  walk_at"wp";refine⟨by exact z157 b,?_⟩;simp only[gP (show(0:Int)<=a by exact z158)];refine fR (λl=>?_) (λl=>?_)
  ·walk_at"wp";rw[zj b f (by lia)] at h;exact h
  ·walk_at"wp";refine nX (n-(a+1)) (by exact z159 f) ⟨a+1,rfl,by exact c6 b,by exact dW f,rfl,rfl,λd s t=>?_⟩;rcases cN d a with c|c
   ·exact u d s c
   ·have:d=a:=by exact dZ c t
    subst this;lia
 ·walk_at"wp";have v:n<a*a:=by
   have:¬ ((a*a:Nat):Int)<=n:=by rw[fu];exact g
   exact z160 this
  rw[uQ (by exact ah b m) (λd w x l=>?_)] at h
  ·rw[show decide ((1:Int)<n)=true by simp;exact z161 b m];exact h
  ·rcases cN d a with c|c
   ·exact u d w c l
   ·have o:n=d*(n/d):=(Nat.mul_div_cancel' (bO l)).symm;have z:2<=n/d:=by
     rcases cN (n/d) 2 with e|e
     ·have:d*(n/d)<=d*1:=g8 _ (by exact cq e);exact z162 x o this
     ·exact e
    have A:n/d<a:=by
     rcases cN (n/d) a with e|e
     ·exact e
     ·have:a*a<=d*(n/d):=Nat.mul_le_mul c e;exact z163 v o this
    refine u (n/d) z A ?_;exact iQ ⟨d,by rw[gr];exact o⟩
noncomputable def lg:Nat->Nat->Nat->Nat×Nat
 | 0,m,_=>(m,0)
 | k+1,m,a=>if m%a=0 then ((lg k (m/a) a).1,(lg k (m/a) a).2+1) else (m,0)
noncomputable def facL:Nat->Nat->Nat->List (Int×Int)
 | 0,_,_=>[]
 | k+1,m,a=>if m<=1 then [] else if 0<(lg m m a).2 then ((a:Int),((lg m m a).2:Int))::facL k (lg m m a).1 (a+1) else facL k (lg m m a).1 (a+1)
noncomputable def facF (n:Nat):List (Int×Int):=facL n n 2
theorem zv {a:Nat}(c:2<=a):∀(k m:Nat),1<=m->m<=k->1<=(lg k m a).1/\(lg k m a).1%a≠0/\(lg k m a).1∣m/\(lg k m a).1<=m
 | 0,m,h1,h2=>by lia
 | k+1,m,h1,h2=>by
  unfold lg;split
  ·rename_i b;have h:1<=m/a:=by have:=eu h1 (bO b);exact(i8 (by exact cU c)).mpr (by exact z164 this)
   have d:m/a<m:=iW h1 c;refine jA (zv c k (m/a) h (by exact z165 h2 d)) λe f g i=>?_;exact⟨e,f,lV g (Nat.div_dvd_of_dvd (bO b)),by show _<=m;lia⟩
  ·rename_i b;exact⟨h1,b,Nat.dvd_refl _,az _⟩
theorem Go {a:Nat}(h:m%a=0):lg (k+1) m a=((lg k (m/a) a).1,(lg k (m/a) a).2+1):=if_pos h
def vR (Φ:Fun):Prop:=∀(n:Nat) (H:Hp) (Q:PQ),1<=n->n<=20000->Q (psT (facF n)) H->Φ "_law_factors" [.int n] H Q
theorem CB {Φ:Fun}{n:Nat}{H:Hp}{Q:PQ}(n1:1<=n) (z:n<=20000) (h:∀H',H<+:H'->Q (psT (facF n)) H'):wpF Φ vB [.int n] H Q:=by
 ((refine⟨rfl,?_⟩;simp only[lst,aM,aO,am]))
 simp only[vB];walk_at"wp";refine⟨by decide,?_⟩;refine oy (λk loc H'=>∃(m a:Nat) (p:List (Int×Int)) (o:Option AV),loc=[some (.int m),some (.ref H.length),some (.int a),o]/\H'=H++[.list (p.map prAV)]/\1<=m/\m<=n/\2<=a/\(∀d,2<=d->d<a->m%d≠0)/\n+2=k+a/\p++facL k m a=facF n/\p.length+2<=a) n ⟨n,2,[],none,rfl,rfl,n1,az _,az _,(λd r F=>by exact z154 r F),rfl,rfl,az _⟩ ?_;intro k loc H' f;refine te (f) λm a p o D E M g=>?_;clear f;subst D;subst E;refine m7 (g) λN R T s l b=>?_;clear g;walk_at"wp";refine fR (λy=>?_) (λy=>?_)
 ·have I:a<=m:=by
   rcases cN m a with r|r
   ·exact absurd (Nat.mod_self m) (T m (by exact br.mp y) r)
   ·exact r
  obtain⟨j,rfl⟩:∃j,k=j+1:=⟨k-1,by exact z166 N s I⟩;refine jA (zv R m m M (az _)) λs1 O P A=>?_;unfold facL at l;rw[if_neg (by exact z167 y)] at l;walk_at"wp";refine oy (λi loc H'=>∃(c t:Nat),loc=[some (.int c),some (.ref H.length),some (.int a),some (.int t)]/\H'=H++[.list (p.map prAV)]/\1<=c/\c<=i/\i<=m/\t+i<=m/\(lg i c a).1=(lg m m a).1/\(lg i c a).2+t=(lg m m a).2) m ⟨m,0,rfl,rfl,M,az _,az _,by exact z168,rfl,by exact z169⟩ ?_;intro i loc H' f;refine pE (f) λc t B C u V im g=>?_;clear f;subst B;subst C;refine fT (g) λW w v=>?_;clear g;walk_at"wp";refine⟨by exact z170 b,?_⟩;simp only[gP (show(0:Int)<=a by exact z158)];refine fR (λY=>?_) (λY=>?_)
  ·have q:c%a=0:=by lia
   obtain⟨i',rfl⟩:∃j,i=j+1:=⟨i-1,by exact z171 u V⟩;rw[Go q] at w v;have Z:1<=c/a:=by have:=eu u (bO q);exact(i8 (by exact cU b)).mpr (by exact z164 this)
   have J:c/a<c:=iW u R;walk_at"wp";refine⟨by exact z170 b,mq (by exact z172 z s),?_⟩;simp only[jv (show(0:Int)<=a by exact z158)];exact nX i' (by exact z173) ⟨c/a,t+1,by rw[iK];rfl,rfl,Z,by exact z165 V J,by exact z174 W,by exact z175 W,w,by simp only at v;exact z176 v⟩
  ·have q:c%a≠0:=by lia
   have X:lg i c a=(c,0):=by
    cases i with
    | zero=>rfl
    | succ i=>unfold lg;rw[if_neg q]
   rw[X] at w v;simp only at w v;have hs:lg m m a=(c,t):=by
    apply mR
    ·exact w.symm
    ·simp only;exact z177 v
   rw[hs] at l s1 O P A;simp only at l s1 O P A;have U:(H++[AObj.list (p.map prAV)])[H.length]?=some (.list (p.map prAV)):=dG;have x:∀d,2<=d->d<a+1->c%d≠0:=by
    intro d r F S;rcases cN d a with G|G
    ·refine T d r G (iQ (lV (bO S) P))
    ·have:d=a:=by exact dZ G F
     subst this;exact O S
   walk_at"wp";refine fR (λL=>?_) (λL=>?_)
   ·rw[if_pos (by exact fW.mp L)] at l;walk_at"wp";refine⟨mr U,ye rfl,?_⟩;rw[sJ U];refine⟨szB (by simp;exact z178 z b s),?_⟩;walk_at"wp";refine nX j (by exact z173) ⟨c,a+1,p++[((a:Int),(t:Int))],_,rfl,?_,s1,by exact aa A N,by exact z179 b,x,by exact z180 s,by rw[bg];exact l,by simp;exact z181 b⟩;rw[cR _ _ (az _)];simp[prAV]
   ·rw[if_neg (by exact z182 L)] at l;walk_at"wp";exact nX j (by exact z173) ⟨c,a+1,p,_,rfl,rfl,s1,by exact aa A N,by exact z179 b,x,by exact z180 s,l,by exact c6 b⟩
 ·walk_at"wp";have K:m=1:=by exact z183 M y
  subst K;have e:facL k 1 a=[]:=by
   cases k with
   | zero=>rfl
   | succ k=>unfold facL;rw[if_pos (az _)]
  rw[e,gX] at l;rw[wW dG];refine⟨szB ?_,?_⟩
  ·have:facL k 1 a=[]:=e;simp;rcases cN a 900 with r|r
   ·exact z184 z s b
   ·exact z184 z s b
  ·walk_at"wp";rw[l];exact h _ bR
end
section
open PySem
theorem n9 {Q:PQ}{k:Int}(h:H[i]?=some (.list l)) (c:l.length<=1000) (a:0<=k) (b:k<l.length) (q:∀z∈l,Q z H):jT (.ref i) (.int k) H Q:=by rw[rV h];exact⟨by exact z123 c,k.toNat,l[k.toNat]'(by exact(eS a).mpr b),yy a b,ak _,q _ (eW _)⟩
theorem lk {Q:PQ}{n:Nat}{cs:List Int}{k:Int}(h:H[i]?=some (.list (cs.map .int))) (d:nU cs n) (g:n<=1000) (f:0<=k) (a:k<n) (q:∀c,0<=c->c<4294967296->Q (.int c) H):jT (.ref i) (.int k) H Q:=by have e:=d.len;refine n9 h (by simp;exact z185 g e) f (by(first|exact yk _ (by decide)|(simp;exact lt_of_lt_of_eq a (congrArg Nat.cast (id (Eq.symm e)))))) λz j=>?_;refine aK (yh j) λc a b=>?_;subst b;exact q c (d.bd c a).1 (d.bd c a).2
theorem oP {Q:PQ}(h:H[i]?=some (.list l)) (a:l.length<=1000) (q:Q (.int l.length) H):wpBi .len [.ref i] H Q:=by rw[rY h];exact⟨by exact z123 a,q⟩
noncomputable def gA:List (Int×Int)->Int
 | []=>1
 | p::r=>p.1^p.2.toNat*gA r
theorem y6 (a b:List (Int×Int)):gA (a++b)=gA a*gA b:=by
 induction a with
 | nil=>simp[gA]
 | cons p r ih=>simp only[ky,gA,ih,jL]
theorem pow_pos' (h:1<=q) (n:Nat):1<=q^n:=by
 induction n with
 | zero=>simp
 | succ n ih =>
  rw[dE];have:=fc ih h (by decide) (by exact aj ih);simpa using this
theorem pow_mono' (h:1<=q){a b:Nat}(e:a<=b):q^a<=q^b:=by refine cG (f_ e) λc d=>?_;subst d;rw[nK];have f:=pow_pos' h a;have:=fc (cS (q^a)) (pow_pos' h c) (by decide) (by exact aj f);simpa using this
theorem tc {ps:List (Int×Int)}(h:∀p∈ps,1<=p.1):1<=gA ps:=by
 induction ps with
 | nil=>decide
 | cons p r ih =>
  have a:=pow_pos' (h p (aR ..)) p.2.toNat;have b:=ih λx c=>h x (yi _ c);have:=fc a b (by decide) (by exact aj a);simpa [gA] using this
theorem DL {ps:List (Int×Int)}{p:Int×Int}(h:ps[i]?=some p):gA ps=gA (ps.take i)*(p.1^p.2.toNat*gA (ps.drop (i+1))):=by
 refine cG (ym h) λhi e=>?_
 conv=>lhs;rw[<-bU i ps,y6,bp hi,e]
 rfl
theorem uZ {ps:List (Int×Int)}{p:Int×Int}(h:ps[i]?=some p):gA (ps.take (i+1))=gA (ps.take i)*p.1^p.2.toNat:=by rw[cM,h,y6];simp[gA]
theorem xE {ps:List (Int×Int)}(a:∀p∈ps,1<=p.1){p:Int×Int}(h:ps[i]?=some p) (g:j<=p.2.toNat):gA (ps.take i)*p.1^j<=gA ps:=by have d:1<=gA (ps.take i):=tc λx b=>a x (bq b);have e:1<=gA (ps.drop (i+1)):=tc λx b=>a x (bP b);have c:=pow_mono' (a p (yc h)) g;have f:=pow_pos' (a p (yc h)) j;rw[DL h];refine bH ?_ (by exact aj d);have:=fc c e (by decide) (by exact z186 c f);simpa using this
inductive Rw where
 | first
 | prime (n b:Int) (ps:List (Int×Int))
 | split (n a b:Int)
 | power (n b:Int)
 | root (n b:Int)
noncomputable def Rw.av:Rw->AV
 | .first=>.tup [.int 2,.str "first",.tup []]
 | .prime n b ps=>.tup [.int n,.str "prime",.tup [.int b,psT ps]]
 | .split n a b=>.tup [.int n,.str "split",.tup [.int a,.int b]]
 | .power n b=>.tup [.int n,.str "power",.tup [.int b]]
 | .root n b=>.tup [.int n,.str "root",.tup [.int b]]
noncomputable def Rw.num:Rw->Int
 | .first=>2
 | .prime n _ _=>n
 | .split n _ _=>n
 | .power n _=>n
 | .root n _=>n
noncomputable def Rw.needs:Rw->List Int
 | .prime _ _ ps=>ps.map (·.1)
 | _=>[]
def Ris (ps:List (Int×Int)):Prop:=ps.Pairwise λp q=>p.1<q.1
def Rw.ok:Rw->Prop
 | .first=>True
 | .prime n b ps=>3<=n/\n<10^30-2000/\1<=b/\b<=n/\ps≠[]/\ps.length<=10/\(∀p∈ps,2<=p.1/\p.1<=20000/\1<=p.2/\p.2<=100)/\Ris ps
 | .split n a b=>2<=a/\2<=b/\a<10^16/\b<10^16/\n=a*b/\n<10^30-2000
 | .power n b=>2<=n/\n<10^30-2000/\1<=b/\b<=n
 | .root n b=>2<=n/\n<10^30-2000/\1<=b/\b<=n
noncomputable def Rw.tells:Rw->Bool
 | .first=>true
 | .prime _ _ _=>true
 | _=>false
def Rw.sem:Rw->Prop
 | .first=>True
 | .prime n b ps=>b<n/\gA ps=n-1/\jV n b ps=true/\∀p∈ps,isPB p.1.toNat=true/\p.1<402
 | .split _ _ _=>True
 | .power n b=>b<n/\pw b (n-1) n≠1
 | .root n b=>1<b/\b<n-1/\b*b%n=1
def Rw.tru (r:Rw):Prop:=r.sem/\(r.num<=401->r.tells=isPB r.num.toNat)
noncomputable def nx (n:Nat):List Int:=if isPB n&&decide (3<=n) then (facF (n-1)).map (·.1) else []
noncomputable def t9 (n b:Nat) (ps:List (Int×Int)):Bool:=kh (b^(n-1)%n) 1&&ps.all λp=>!Nat.beq (b^((n-1)/p.1.toNat)%n) 1
noncomputable def chk (n:Nat):Bool:=!isPB n||fU n 2||((facF (n-1)).all (λp=>fU 2 p.1.toNat&&fU p.1.toNat 401&&fU 1 p.2.toNat&&fU p.2.toNat 100)&&fU (facF (n-1)).length 10&&!(facF (n-1)).isEmpty&&decide (gA (facF (n-1))=n-1)&&decide ((facF (n-1)).Pairwise λp q=>p.1<q.1)&&(facF (n-1)).all (λp=>isPB p.1.toNat)&&(bG n).any λb=>fU 1 b&&t9 n b (facF (n-1)))
theorem CW:(bG 402).all chk=true:=by decide+kernel
theorem qj {b e:Nat}:pw (b:Int) (e:Int) (m:Int)=((b^e%m:Nat):Int):=by unfold pw;rw[cx];simp
theorem FV {n b:Nat}{ps:List (Int×Int)}(c:1<=n) (g:∀p∈ps,0<=p.1) (h:t9 n b ps=true):jV n b ps=true:=by
 simp only[t9,aS,aN,cT] at h;simp only[jV,aS,aN,cT,decide_eq_true_eq,decide_eq_false_iff_not];refine⟨?_,λp a=>?_⟩
 ·rw[show(n:Int)-1=((n-1:Nat):Int) by exact z187 c,qj,gE h.1];rfl
 ·have d:=h.2 p a;have f:=g p a;rw[show(n:Int)-1=((n-1:Nat):Int) by exact z187 c,show p.1=((p.1.toNat:Nat):Int) by exact gU.mpr f,<-iK,qj];intro e;exact mz d (by exact Eq.symm ((λ{m n}=>gN.mp) (id (Eq.symm e))))
theorem FT {n:Nat}(u:3<=n) (v:n<=401) (a:isPB n=true):(∀p∈facF (n-1),2<=p.1/\p.1<402/\1<=p.2/\p.2<=100)/\(facF (n-1)).length<=10/\facF (n-1)≠[]/\gA (facF (n-1))=n-1/\Ris (facF (n-1))/\(∀p∈facF (n-1),isPB p.1.toNat=true)/\∃r:Nat,1<=r/\r<n/\jV n r (facF (n-1))=true:=by
 have h:=aN.mp CW n (ch.mpr (by exact eR v));simp only[chk,a,bC,Bool.false_or,fS,aS,aN,iH,ch,Nat.ble_eq,cT,List.isEmpty_eq_false_iff,decide_eq_true_eq] at h;rcases h with h|⟨⟨⟨⟨⟨⟨m,o⟩,q⟩,j⟩,k⟩,l⟩,r,c,s,t⟩
 ·exact absurd u (di (eR h))
 ·have d:∀p∈facF (n-1),2<=p.1/\p.1<402/\1<=p.2/\p.2<=100:=λp a=>by refine c7 (m p a) λb i=>?_;obtain⟨⟨e,f⟩,g⟩:=b;exact⟨kj.mp e,aU (eh.mp f) (by decide),kj.mp g,eh.mp i⟩
  exact⟨d,o,q,j,k,l,r,s,c,FV (by exact fN c) (λp a=>by have:=d p a;exact z188 this) t⟩
noncomputable def rnd (n b r:Nat):Nat:=if b<=r then r-b else r+(n-1)-b
theorem yE {n b r:Nat}(n2:2<=n) (i:1<=b) (d:b<n) (c:1<=r) (g:r<n) (h:b≠r):1<=b%(n-1)+1/\b%(n-1)+1<n/\rnd n (b%(n-1)+1) r<rnd n b r:=by
 have f:n-1+1=n:=cY (bw n2);rcases cN b (n-1) with a|a
 ·rw[gI a];refine⟨aE _ _,ah (Nat.succ_lt_succ a) (bf f),?_⟩;unfold rnd;rcases cN r b with q|q
  ·rw[if_neg (di (gu q)),if_neg (di q)];exact jC (ah a (aE _ _)) (fO b)
  ·have q:=bv q h;rw[if_pos (show b+1<=r from q),if_pos (aX q)];exact jC q (fO b)
 ·have e:b=n-1:=cI (dl d) a;have q:r<n-1:=bv (dl g) λz=>h (e.trans z.symm);rw[e,Nat.mod_self];refine⟨az _,n2,?_⟩;unfold rnd;rw[if_pos (show 0+1<=r from c),if_neg (di q),fj];exact lF c Nat.zero_lt_one
def vS (Φ:Fun):Prop:=∀(n:Nat) (c:Int) (H:Hp) (Q:PQ),2<=n->n<=401->isPB n=true->0<=c->(∀r:Rw,r.ok->r.tru->r.num=n->r.needs=nx n->Q r.av H)->Φ "_law_prime_row" [.int n,.int c] H Q
theorem FS {Φ:Fun}(D:vR Φ) (E:tS Φ){n:Nat}{c:Int}{H:Hp}{Q:PQ}(n2:2<=n) (j:n<=401) (a:isPB n=true) (P:0<=c) (h:∀r:Rw,r.ok->r.tru->r.num=n->r.needs=nx n->Q r.av H):wpF Φ vL [.int n,.int c] H Q:=by
 ((refine⟨rfl,?_⟩;simp only[lst,aM,aO,am]))
 simp only[vL];walk_at"wp";refine fR (λx=>?_) (λx=>?_)
 ·walk_at"wp";refine⟨by decide,by decide,?_⟩;have:n=2:=by exact Eq.symm ((λ{m n}=>gN.mp) (id (Eq.symm x)))
  subst this;exact h .first trivial ⟨trivial,λ_=>a.symm⟩ rfl rfl
 walk_at"wp";have u:3<=n:=by exact z189 n2 x
 have w:(n:Int)-1=((n-1:Nat):Int):=by exact z190 u
 refine m7 (FT u j a) λC K L M N o=>?_;refine c7 (o) λO l=>?_;clear o;refine eT (l) λr q s J=>?_;clear l;rw[w];refine D (n-1) H _ (by exact z191 q s) (by exact z192 j) ?_;walk_at"wp";rw[w];refine⟨by exact z193 q s,?_⟩;rw[gP (by exact z194)];have f:=aT c (show((n-1:Nat):Int)≠0 by exact z193 q s);have v:=yk c (show 0<((n-1:Nat):Int) by exact z195 q s);refine oy (λk loc H'=>∃b:Nat,k=rnd n b r/\1<=b/\b<n/\H'=H/\loc=[some (.int n),some (.int c),some (psT (facF (n-1))),some (.int b)]) _ ⟨(1+c%((n-1:Nat):Int)).toNat,rfl,by exact z196 f,by exact z197 f v,rfl,by rw[bb (by exact z198 f)]⟩ ?_;intro k loc H' i;refine pT (i) λb y g d z A=>?_;clear i;subst y;subst z;subst A;walk_at"wp";refine E n b (facF (n-1)) H' _ (by exact z199 f v) (by exact z200 j) (by exact z201 j d) (λp a=>by have:=C p a;exact z202 this) ?_;walk_at"wp";refine gC (b:=!jV n b (facF (n-1))) (λt=>?_) (λt=>?_)
 ·walk_at"wp";rw[w];refine⟨by exact z203 f v,?_⟩;rw[gP (by exact z194)];have B:b≠r:=λe=>by rw[e,J] at t;cases t
  refine fT (yE n2 g d q s B) λF G I=>?_;exact nX _ I ⟨b%(n-1)+1,rfl,F,G,rfl,by rw[fX,kL];rfl⟩
 ·walk_at"wp";refine⟨ye rfl,ye rfl,?_⟩;refine h (.prime n b (facF (n-1))) ⟨by exact eh.mp u,by exact z204 j,by exact eh.mp g,by exact z205 d,L,K,λp a=>by have:=C p a;exact z206 this,N⟩ ⟨⟨by show(b:Int)<n;exact bW.mpr d,M,by simpa using t,λp a=>⟨O p a,(C p a).2.1⟩⟩,λ_=>by rw[show(Rw.prime (n:Int) b (facF (n-1))).num.toNat=n from cx n,a];rfl⟩ rfl ?_;simp only[Rw.needs,nx,a,dB];rw[if_pos (by simpa using u)]
end
section
open PySem
noncomputable def mM (f:Int->Bool) (y:AV):Option AV:=match y with|.int a=>if f a then some (.int a) else none|_=>none
theorem yx {f:Int->Bool}{z:AV}(h:z∈((bG m).map λ(k:Nat)=>AV.int (2+k)).filterMap (mM f)):∃a:Int,z=.int a/\2<=a/\a<2+m/\f a=true:=by
 refine aK (cz.mp h) λy d e=>?_;refine aK (yh d) λk c b=>?_;subst b;have:=ch.mp c;simp only[mM] at e;split at e
 ·cases e;exact⟨_,rfl,by exact z207,by exact z208 this,by assumption⟩
 ·cases e
theorem Db {f:Int->Bool}(b:2<=a) (d:a<2+m) (c:f a=true):AV.int a∈((bG m).map λ(k:Nat)=>AV.int (2+k)).filterMap (mM f):=by refine cz.mpr ⟨.int a,yo ⟨(a-2).toNat,ch.mpr (by exact z209 b d),?_⟩,by simp[mM,c]⟩;congr 1;exact z210 b
theorem yw {f:Int->Bool}:(l.filterMap (mM f)).length<=l.length:=List.length_filterMap_le _ _
theorem zA {n:Nat}(n2:2<=n) (c:2<=a) (h:(n:Int)%a=0):pw a ((n:Int)-1) n≠1:=by unfold pw;intro e;have d:a∣(n:Int):=l_ h;have b:(a^((n:Int)-1).toNat%(n:Int))%a=a^((n:Int)-1).toNat%a:=fM _ d;rw[e] at b;obtain⟨k,f⟩:∃k,((n:Int)-1).toNat=k+1:=⟨n-2,by exact z211 n2⟩;rw[f,dE,Int.mul_emod_left,ko (by decide) (by exact fL c)] at b;exact z212 b
theorem x_ {Q:PQ}{k:Int}(h:H[i]?=some (.list l)) (c:l.length<=100000) (a:0<=k) (b:k<l.length) (q:∀z∈l,Q z H):jT (.ref i) (.int k) H Q:=by rw[rV h];exact⟨by exact z213 c,k.toNat,l[k.toNat]'(by exact(eS a).mpr b),yy a b,ak _,q _ (eW _)⟩
theorem un {Q:PQ}(h:H[i]?=some (.list l)) (a:l.length<=100000) (q:Q (.int l.length) H):wpBi .len [.ref i] H Q:=by rw[rY h];exact⟨by exact z213 a,q⟩
def vT (Φ:Fun):Prop:=∀(n:Nat) (c:Int) (H:Hp) (Q:PQ),2<=n->n<=20000->isPB n=false->0<=c->(∀r:Rw,r.ok->r.tru->r.num=n->r.needs=[]->Q r.av H)->Φ "_law_parted_row" [.int n,.int c] H Q
theorem Gk {Φ:Fun}(cp:p_ Φ){n:Nat}{c:Int}{H:Hp}{Q:PQ}(n2:2<=n) (g:n<=20000) (hp:isPB n=false) (c0:0<=c) (h:∀r:Rw,r.ok->r.tru->r.num=n->r.needs=[]->∀H',H<+:H'->Q r.av H'):wpF Φ rC [.int n,.int c] H Q:=by
 refine eT (xp n2 hp) λdv P R a0=>?_;have O:∀{r:Rw},r.num=n->r.tells=false->(r.num<=401->r.tells=isPB r.num.toNat):=λ{r} e t _=>by rw[e,cx,hp,t]
 ((refine⟨rfl,?_⟩;simp only[lst,aM,aO,am]))
 simp only[rC];walk_at"wp";refine⟨by decide,by decide,by exact z135,by exact z214 g,?_⟩;refine sS (mM λa=>decide ((n:Int)%a=0)) (by rw[ya,gj];exact szB (by exact z215 g)) trivial (λy hy=>?_) ?_
 ·refine aK (yh hy) λk D u=>?_;subst u;have D:=ch.mp D;refine⟨[.int (2+k)],rfl,λK q=>?_,λv hv Q' q=>?_⟩
  ·walk_at"wp";refine⟨by exact z216,?_⟩;simp only[gP (show(0:Int)<=2+k by exact z217)];have:(mM (λa=>decide ((n:Int)%a=0)) (.int (2+k))).isSome=decide ((n:Int)%(2+k)=0):=by simp only[mM];split<;>simp_all
   rw[this] at q;refine gC (b:=decide ((n:Int)%(2+k)=0)) (λd=>?_) (λd=>?_)
   ·rw[d] at q;walk_at"wp";exact q
   ·rw[d] at q;walk_at"wp";exact q
  ·simp only[mM] at hv;split at hv
   ·cases hv;walk_at"wp";exact q
   ·cases hv
 generalize M:(((bG ((n:Int)-2).toNat).map λ(k:Nat)=>AV.int (2+k)).filterMap (mM λa=>decide ((n:Int)%a=0)))=PL;have W:∀z∈PL,∃a:Int,z=.int a/\2<=a/\a<n/\(n:Int)%a=0:=by intro z o;rw[<-M] at o;refine lB (yx o) λa e d w U=>?_;exact⟨a,e,d,by exact z218 d w,by simpa using U⟩
 have B:1<=PL.length:=by
  have:AV.int dv∈PL:=by rw[<-M];exact Db (by exact eh.mp P) (by exact z219 R) (by simp;lia)
  exact l8 this
 have G:PL.length<=20000:=by rw[<-M];refine aa yw ?_;simp;exact z220 g
 clear M;walk_at"wp";refine⟨by decide,by decide,by exact z221,by exact z222 g,?_⟩;refine sS (mM λa=>decide (a*a%n=1)) (by rw[ya,gj];exact szB (by exact z223 g)) trivial (λy hy=>?_) ?_
 ·refine aK (yh hy) λk D u=>?_;subst u;have D:=ch.mp D;refine⟨[.int (2+k)],rfl,λK q=>?_,λv hv Q' q=>?_⟩
  ·walk_at"wp";refine⟨oU (by exact z224 g D),by exact z225 D,?_⟩;simp only[gP (show(0:Int)<=n by exact z158)];have:(mM (λa=>decide (a*a%(n:Int)=1)) (.int (2+k))).isSome=decide ((2+(k:Int))*(2+k)%n=1):=by simp only[mM];split<;>simp_all
   rw[this] at q;refine gC (b:=decide ((2+(k:Int))*(2+k)%n=1)) (λd=>?_) (λd=>?_)
   ·rw[d] at q;walk_at"wp";exact q
   ·rw[d] at q;walk_at"wp";exact q
  ·simp only[mM] at hv;split at hv
   ·cases hv;walk_at"wp";exact q
   ·cases hv
 generalize X:(((bG ((n:Int)-1-2).toNat).map λ(k:Nat)=>AV.int (2+k)).filterMap (mM λa=>decide (a*a%n=1)))=RL;have Y:∀z∈RL,∃a:Int,z=.int a/\2<=a/\a<n-1/\a*a%n=1:=by intro z o;rw[<-X] at o;refine lB (yx o) λa e d w U=>?_;exact⟨a,e,d,by exact z226 d w,by simpa using U⟩
 have C:RL.length<=20000:=by rw[<-X];refine aa yw ?_;simp;exact z227 g
 clear X;generalize A:H++[AObj.list PL]++[AObj.list RL]=F;have E:H<+:F:=by rw[<-A];exact bR.trans bR
 have J:F[H.length]?=some (.list PL):=by rw[<-A];exact dJ bR dG
 have m:F[(H++[AObj.list PL]).length]?=some (.list RL):=by rw[<-A];exact dG
 generalize (H++[AObj.list PL]).length=jR at m;walk_at"wp";refine⟨by decide,mq (by decide),?_⟩;refine un J (by exact z228 G) ?_;walk_at"wp";refine⟨by exact dw.mpr B,?_⟩;simp only[gP (show(0:Int)<=PL.length by exact z158),jv (show(0:Int)<=4 by decide),gP (show(0:Int)<=4 by decide)];refine x_ J (by exact z228 G) (aT _ (by exact dw.mpr B)) (yk _ (by exact fW.mpr B)) λz o=>?_;refine lB (W z o) λa l i p ha=>?_;subst l;have L:wpSs Φ (rC.body.drop 4) [some (.int n),some (.int c),some (.ref H.length),some (.ref jR),some (.int a),none] F (i6 Q):=by
  simp only[rC,hF];walk_at"wp";refine⟨by decide,?_⟩
  (simp only[gP,jv,bV])
  refine fR (λd=>?_) (λd=>?_)
  ·walk_at"wp";refine⟨by exact z229 i,mq (by exact z230 g i p),ye rfl,ye rfl,?_⟩;simp only[jv (show(0:Int)<=a by exact z231 i)];have s:(n:Int)=a*((n:Int)/a):=(Int.mul_ediv_cancel' (l_ ha)).symm;have q2:2<=(n:Int)/a:=by
    rcases Int.lt_or_le ((n:Int)/a) 2 with V|V
    ·have:a*((n:Int)/a)<=a*1:=bH (by exact m6.mpr V) (by exact z231 i);exact z232 p s this
    ·exact V
   have q3:(n:Int)/a<=n:=Int.ediv_le_self _ (by exact z158);exact h (.split n a ((n:Int)/a)) ⟨i,q2,by exact z233 g p,by exact z234 g q3,s,by exact z235 g⟩ ⟨trivial,O rfl rfl⟩ rfl rfl _ E
  ·walk_at"wp";have e1:(n:Int)-1=((n-1:Nat):Int):=by exact z236 i p
   rw[e1];refine⟨by decide,mq (by decide),by exact z237 i p,?_⟩;rw[jv (by decide),gP (by exact z194)];have N:=aT (c/4) (show((n-1:Nat):Int)≠0 by exact z237 i p);have b1:=yk (c/4) (show 0<((n-1:Nat):Int) by exact z238 i p);refine oy (λk loc H'=>∃b:Nat,k=rnd n b a.toNat/\1<=b/\b<n/\H'=F/\loc=[some (.int n),some (.int c),some (.ref H.length),some (.ref jR),some (.int a),some (.int b)]) _ ⟨(1+c/4%((n-1:Nat):Int)).toNat,rfl,by exact z196 N,by exact z197 N b1,rfl,by rw[bb (by exact z198 N)]⟩ ?_;intro k loc H' I;refine pT (I) λb l j f S T=>?_;clear I;subst l;subst S;subst T;walk_at"wp";refine cp b (n-1) n _ _ (by exact z239 g f) (by exact z240 f) (by exact z241 g) (by exact z242 f) (by exact z243 g) ?_;walk_at"wp";refine fR (λd=>?_) (λd=>?_)
   ·walk_at"wp";rw[e1];refine⟨by exact z193 j f,?_⟩;rw[gP (by exact z194)];have Z:b≠a.toNat:=λe=>by
     have:((b:Nat):Int)=a:=by exact z244 j e
     rw[this] at d;exact zA n2 i ha d
    refine fT (yE n2 j f (show 1<=a.toNat by exact z245 i) (show a.toNat<n by exact z246 i p) Z) λg1 g2 g3=>?_;exact nX _ g3 ⟨b%(n-1)+1,rfl,g1,g2,rfl,by rw[fX,kL];rfl⟩
   ·walk_at"wp";refine⟨ye rfl,ye rfl,?_⟩;exact h (.power n b) ⟨by exact z247 j f,by exact z235 g,by exact eh.mp j,by exact z205 f⟩ ⟨⟨by show(b:Int)<n;exact bW.mpr f,d⟩,O rfl rfl⟩ rfl rfl _ E
 walk_at"wp";refine⟨by decide,?_⟩
 (simp only[gP,jv,bV])
 refine fR (λd=>?_) (λd=>?_)
 ·walk_at"wp";refine un m (by exact z228 C) ?_;walk_at"wp";refine fR (λw=>?_) (λw=>?_)
  ·walk_at"wp";refine⟨by decide,mq (by decide),?_⟩;refine un m (by exact z228 C) ?_;walk_at"wp";refine⟨by exact Ne.symm (dF w),?_⟩;simp only[gP (show(0:Int)<=RL.length by exact z158),jv (show(0:Int)<=4 by decide)];refine x_ m (by exact z228 C) (aT _ (by exact Ne.symm (dF w))) (yk _ (by assumption)) λz o=>?_;refine lB (Y z o) λx l x2 xn xx=>?_;subst l;walk_at"wp";refine⟨ye rfl,ye rfl,?_⟩;exact h (.root n x) ⟨by exact z248 x2 xn,by exact z235 g,by exact aj x2,by exact z249 xn⟩ ⟨⟨by exact fL x2,xn,xx⟩,O rfl rfl⟩ rfl rfl _ E
  ·simp only[k_ite,k_itef,ss_nil,thenS_next];exact L
 ·simp only[k_andf,k_ite,k_itef,ss_nil,thenS_next];exact L
end
section
open PySem
noncomputable def nxN (n:Nat):List Nat:=(nx n).map aG
noncomputable def trT:Nat->Nat->Nat
 | 0,_=>0
 | k+1,n=>1+((nxN n).map λq=>trT k q).sum
noncomputable def tr2:Nat->Nat->Nat
 | 0,_=>0
 | k+1,n=>(if n=2 then 0 else 1)+((nxN n).map λq=>tr2 k q).sum
noncomputable def T (n:Nat):Nat:=trT 12 n
noncomputable def T2 (n:Nat):Nat:=tr2 12 n
noncomputable def chT (n:Nat):Bool:=kh (T n) (1+((nxN n).map T).sum)&&kh (T2 n) ((if kh n 2 then 0 else 1)+((nxN n).map T2).sum)&&fU (T n) 20&&fU (T2 n) 7&&(nxN n).all (λq=>fU 2 q&&fU q 401)&&(nx n).all λq=>Int.decLe 0 q |>.decide
theorem CV:(bG 402).all chT=true:=by decide+kernel
theorem Ak {n:Nat}(h:n<=401):T n=1+((nxN n).map T).sum/\T2 n=(if n=2 then 0 else 1)+((nxN n).map T2).sum/\T n<=20/\T2 n<=7/\(∀q∈nxN n,2<=q/\q<=401)/\∀q∈nx n,0<=q:=by
 have h:=aN.mp CV n (ch.mpr (by exact eR h));simp only[chT,aS,aN,Nat.ble_eq,decide_eq_true_eq] at h;refine c7 (h) λa i=>?_;clear h;obtain⟨⟨⟨⟨b,c⟩,d⟩,f⟩,g⟩:=a;refine⟨gE b,?_,d,f,g,i⟩;rw[gE c]
 by_cases e:n=2
 ·subst e;rfl
 ·rw[if_neg e,if_neg (by simpa using e)]
noncomputable def qpow:Nat->Nat->Nat->Nat->Nat->Nat
 | 0,_,_,f,m=>f%m
 | k+1,b,e,f,m=>if kh e 0 then f%m else qpow k (b*b%m) (e/2) (if kh (e%2) 1 then f*b%m else f) m
theorem xH:∀(k b e f m:Nat),e<2^k->qpow k b e f m=f*b^e%m
 | 0,b,e,f,m,h=>by
  have:e=0:=by simpa using h
  subst this;simp[qpow]
 | k+1,b,e,f,m,h=>by
  rw[qpow]
  by_cases c:e=0
  ·subst c;simp
  ·rw[if_neg (by simpa using c),xH k _ _ _ _ (by rw[j9] at h;exact z250 h)];have d:b^e=(b*b)^(e/2)*b^(e%2):=by
    have:b*b=b^2:=by rw[Nat.pow_two]
    rw[this,<-Nat.pow_mul,<-jg];congr 1;exact z128
   have g:∀x:Nat,x*(b*b%m)^(e/2)%m=x*(b*b)^(e/2)%m:=λx=>by rw[dj,<-nv,<-dj]
   rw[g,d]
   by_cases a:e%2=1
   ·rw[if_pos (by simpa using a),a,Nat.pow_one,dj (f*b%m),kT,<-dj];congr 1;rw[gr ((b*b)^(e/2)) b,iE]
   ·rw[if_neg (by simpa using a),show e%2=0 by exact Nat.mod_two_ne_one.mp a,Nat.pow_zero,Nat.mul_one]
noncomputable def pwN (b e m:Nat):Nat:=qpow 70 b e 1 m
theorem t0 {b e:Nat}(h:e<2^70):pw (b:Int) (e:Int) (m:Int)=(pwN b e m:Nat):=by rw[qj,pwN,xH _ _ _ _ _ h,ji]
noncomputable def t_ (n b:Nat) (ps:List (Int×Int)):Bool:=kh (pwN b (n-1) n) 1&&ps.all λp=>!Nat.beq (pwN b ((n-1)/p.1.toNat) n) 1
theorem Dr {n b:Nat}{ps:List (Int×Int)}(d:1<=n) (a:n<2^70) (j:∀p∈ps,0<=p.1) (h:t_ n b ps=true):jV n b ps=true:=by
 simp only[t_,aS,aN,cT] at h;simp only[jV,aS,aN,cT,decide_eq_true_eq,decide_eq_false_iff_not];refine⟨?_,λp c=>?_⟩
 ·rw[show(n:Int)-1=((n-1:Nat):Int) by exact z187 d,t0 (by exact iI a),gE h.1];rfl
 ·have f:=h.2 p c;have g:=j p c;have i:(n-1)/p.1.toNat<=n-1:=Nat.div_le_self _ _;rw[show(n:Int)-1=((n-1:Nat):Int) by exact z187 d,show p.1=((p.1.toNat:Nat):Int) by exact gU.mpr g,<-iK,t0 (by exact z251 a i)];intro e;exact mz f (by exact Eq.symm ((λ{m n}=>gN.mp) (id (Eq.symm e))))
noncomputable def bigR:List (Int×Int×List (Int×Int)):=[(65537,3,[(2,16)]),(998244353,3,[(2,23),(7,1),(17,1)]),(2013265921,31,[(2,27),(3,1),(5,1)]),(4179340454199820289,3,[(2,57),(29,1)])]
def NOK (r:Rw):Prop:=(∀q∈r.needs,2<=q/\q<=401)/\((r.needs.map aG).map T).sum<=100/\((r.needs.map aG).map T2).sum<=3
def SBig (Φ:Fun):Prop:=∀(c:Int) (H:Hp) (Q:PQ),0<=c->(∀r:Rw,r.ok->r.tru->3<=r.num->NOK r->Q r.av H)->Φ "_law_big_row" [.int c] H Q
noncomputable def bigE:List Nat:=[1,11,13,19,23]
theorem Fn:(bigR.all λx=>bigE.all λe=>t_ x.1.toNat (pwN x.2.1.toNat e x.1.toNat) x.2.2)=true:=by decide+kernel
theorem D3 {x:Int×Int×List (Int×Int)}(j:x∈bigR){e:Nat}(g:e∈bigE):1<=pw x.2.1 e x.1/\(Rw.prime x.1 (pw x.2.1 e x.1) x.2.2).tru:=by
 have h:=aN.mp (aN.mp Fn x j) e g;have l:2<=x.1/\x.1<2^70/\402<x.1/\0<=x.2.1/\gA x.2.2=x.1-1/\(∀p∈x.2.2,isPB p.1.toNat=true/\p.1<402)/\∀p∈x.2.2,0<=p.1:=by simp only[bigR,cA,cJ,or_false] at j;rcases j with rfl|rfl|rfl|rfl<;>exact⟨by decide,by decide,by decide,by decide,by decide+kernel,by decide+kernel,by decide⟩
 have i:e<2^70:=by simp only[bigE,cA,cJ,or_false] at g;exact z252 g
 refine m7 (l) λz s a t u d=>?_;clear l;refine c7 (d) λv w=>?_;clear d;have r:pw x.2.1 e x.1=(pwN x.2.1.toNat e x.1.toNat:Nat):=by
  have:=t0 (b:=x.2.1.toNat) (m:=x.1.toNat) i
  rwa [bb t,bb (by exact z253 a)] at this
 have f:jV x.1 (pw x.2.1 e x.1) x.2.2=true:=by
  have:=Dr (n:=x.1.toNat) (by exact z254 a) (by exact z255 s) w h
  rwa [<-r,bb (by exact z253 a)] at this
 refine⟨?_,⟨yk _ (by exact z256 a),u,f,v⟩,λc=>absurd c (by show ¬ x.1<=401;exact z257 a)⟩;have o:0<=pw x.2.1 e x.1:=aT _ (by exact z258 a);rcases Int.lt_or_eq_of_le o with q|q
 ·exact Int.le_of_sub_one_lt q
 ·exfalso;rw[<-q] at f;simp only[jV,aS,decide_eq_true_eq] at f;have:=f.1;unfold pw at this;obtain⟨k,y⟩:∃k,(x.1-1).toNat=k+1:=⟨(x.1-2).toNat,by exact z259 a⟩;rw[y,dE,Int.mul_zero,Int.zero_emod] at this;exact z260 this
theorem B4 {Φ:Fun}(cp:p_ Φ){c:Int}{H:Hp}{Q:PQ}(w:0<=c) (h:∀r:Rw,r.ok->r.tru->3<=r.num->NOK r->∀H',H<+:H'->Q r.av H'):wpF Φ vz [.int c] H Q:=by
 ((refine⟨rfl,?_⟩;simp only[lst,aM,aO,am]))
 simp only[vz];walk_at"wp";refine⟨by decide,by decide,by decide,by decide,by decide,by decide,by decide,by decide,by decide,by decide,by decide,by decide,by decide,by decide,by decide,by decide,by decide,by decide,by decide,?_⟩;rw[wk (dJ bR dG) dG];refine⟨by decide,?_⟩;generalize m:([AV.tup [AV.int 65537,AV.int 3,AV.tup [AV.tup [AV.int 2,AV.int 16]]],AV.tup [AV.int 998244353,AV.int 3,AV.tup [AV.tup [AV.int 2,AV.int 23],AV.tup [AV.int 7,AV.int 1],AV.tup [AV.int 17,AV.int 1]]]]++[AV.tup [AV.int 2013265921,AV.int 31,AV.tup [AV.tup [AV.int 2,AV.int 27],AV.tup [AV.int 3,AV.int 1],AV.tup [AV.int 5,AV.int 1]]],AV.tup [AV.int 4179340454199820289,AV.int 3,AV.tup [AV.tup [AV.int 2,AV.int 57],AV.tup [AV.int 29,AV.int 1]]]])=L;have n:∀z∈L,∃x∈bigR,z=.tup [.int x.1,.int x.2.1,psT x.2.2]:=by
  intro z a;rw[<-m] at a;simp only[ky,List.nil_append,cA,cJ,or_false] at a;rcases a with rfl|rfl|rfl|rfl
  ·exact⟨(65537,3,[(2,16)]),by simp[bigR],rfl⟩
  ·exact⟨(998244353,3,[(2,23),(7,1),(17,1)]),by simp[bigR],rfl⟩
  ·exact⟨(2013265921,31,[(2,27),(3,1),(5,1)]),by simp[bigR],rfl⟩
  ·exact⟨(4179340454199820289,3,[(2,57),(29,1)]),by simp[bigR],rfl⟩
 have d:L.length=4:=by rw[<-m];rfl
 clear m;walk_at"wp";refine⟨by decide,?_⟩
 (simp only[gP,jv,bV])
 refine n9 dG (by exact z261 d) (aT _ (by decide)) (by exact z262 d) λz a=>?_;refine aK (n z a) λx o l=>?_;subst l;have f:3<=x.1/\x.1<10^30/\x.2.1.natAbs<2^200/\∀b,1<=b->b<=x.1->(Rw.prime x.1 b x.2.2).ok/\NOK (Rw.prime x.1 b x.2.2):=by
  simp only[bigR,cA,cJ,or_false] at o;rcases o with rfl|rfl|rfl|rfl <;>
  ·refine⟨by decide,by decide,by decide,λb i j=>⟨⟨by decide,by decide,i,j,by simp,by simp,by decide,by unfold Ris;decide⟩,by simp only[Rw.needs];decide,?_,?_⟩⟩
   ·simp only[Rw.needs];decide+kernel
   ·simp only[Rw.needs];decide+kernel
 refine jA (f) λp q v g=>?_;clear f;simp -implicitDefEqProofs only[↓k_asgT,↓thenS_next,↓ss_cons,↓s_asg,↓e_call,↓es_cons,zipC,zipM,sAc,setS,set0,sAn,↓e_locS,↓e_loc0,↓k_e1,↓e_idx,↓e_lst,↓e_cst,↓es_nil,↓k_e2,↓k_lst,↓k_idx1,↓e_bin,↓k_bin1,↓k_bin2,↓b_fdiv,↓b_mod,↓k_idx2];refine⟨by simp[ag],by decide,by decide,mq (by decide),by decide,?_⟩
 (simp only[gP,jv,bV])
 refine n9 dG (by(first|exact ye rfl|simp)) (aT _ (by decide)) (by(first|exact yk _ (by decide)|(simp;lia))) λz a=>?_;have:∃e:Nat,z=.int e/\e∈bigE/\e<100:=by
  simp only[cA,cJ,or_false] at a;rcases a with rfl|rfl|rfl|rfl|rfl
  ·exact⟨1,rfl,by decide,by decide⟩
  ·exact⟨11,rfl,by decide,by decide⟩
  ·exact⟨13,rfl,by decide,by decide⟩
  ·exact⟨19,rfl,by decide,by decide⟩
  ·exact⟨23,rfl,by decide,by decide⟩
 refine eT (this) λe k t u=>?_;clear this;subst k;walk_at"wp";refine cp x.2.1 e x.1 _ _ v (by exact z158) (by exact z263 u) (by exact z264 p) (by exact z265 q) ?_;walk_at"wp";refine⟨ye rfl,ye rfl,?_⟩;refine c7 (D3 o t) λi s=>?_;have j:pw x.2.1 e x.1<x.1:=yk _ (by exact z266 p);exact h (.prime x.1 (pw x.2.1 e x.1) x.2.2) (g _ i (aj j)).1 s p (g _ i (aj j)).2 _ (by repeat (first|exact bR|refine List.IsPrefix.trans ?_ bR))
theorem u2 {x y:Int}(b:2<=x) (c:2<=y):isPB (x*y).toNat=false:=by refine cG (aV (show 0<=x by exact z231 b)) λm a=>?_;subst a;refine cG (aV (show 0<=y by exact z231 c)) λk a=>?_;subst a;rw[<-fu,cx];have:m*2<=m*k:=g8 m (by exact br.mp c);exact zj (d:=m) (by exact br.mp b) (by exact z267 b this) (Nat.mul_mod_right m k)
theorem Dw (x:Int):(x+1)*(x+1)-1=x*(x+2):=by rw[Int.add_mul,Int.mul_add,iD,jq,Int.mul_add];exact z268
theorem FE {x y:Int}(a:2<=x) (d:2<=y):pw x (x*y-1) (x*y)≠1:=by refine cG (aV (show 0<=x*y from Int.mul_nonneg (by exact z231 a) (by exact z231 d))) λn e=>?_;have b:x*2<=x*y:=bH d (by exact z231 a);have c:x*y%x=0:=Int.mul_emod_right x y;rw[e] at b c ⊢;exact zA (by exact z269 a b) a c
def wg (Φ:Fun):Prop:=∀(c m:Int) (H:Hp) (Q:PQ),0<=c->c<4294967296->0<=m->m<4294967296->(∀r:Rw,r.ok->r.tru->3<=r.num->r.needs=[]->Q r.av H)->Φ "_law_great_row" [.int c,.int m] H Q
theorem FF {c m:Int}{Q:PQ}(s:0<=c) (t:c<4294967296) (u:0<=m) (v:m<4294967296) (h:∀r:Rw,r.ok->r.tru->3<=r.num->r.needs=[]->Q r.av H):wpF Φ vK [.int c,.int m] H Q:=by
 have o:((10:Int)^(aG 15))=1000000000000000:=by decide
 ((refine⟨rfl,?_⟩;simp only[lst,aM,aO,am]))
 simp only[vK];walk_at"wp";rw[o];refine⟨oU (by exact z270 s t),by decide,by decide,by decide,by decide,oU (by exact z270 u v),by decide,by decide,by decide,by decide,?_⟩;rw[gP (by decide),gP (by decide)];have i:=aT (c*2147483647+m) (show(1000000000000000:Int)≠0 by decide);have l:=yk (c*2147483647+m) (show(0:Int)<1000000000000000 by decide);have d:=aT (m*2147483647+c) (show(1000000000000000-9:Int)≠0 by decide);have k:=yk (m*2147483647+c) (show(0:Int)<1000000000000000-9 by decide);generalize (c*2147483647+m)%1000000000000000=a at i l;generalize (m*2147483647+c)%(1000000000000000-9)=b at d k;have n:(2+a)*(2+b)<10^30-2000:=aU (fc (show 2+a<=1000000000000001 by exact z271 l) (show 2+b<=999999999999992 by exact z272 k) (by exact z273 d) (by decide)) (by decide);have g:(2+a)*2<=(2+a)*(2+b):=bH (by exact aZ d) (by exact z273 i);have q:(2+b+1)*(2+b+1)<10^30-2000:=aU (fc (show 2+b+1<=999999999999993 by exact z274 k) (show 2+b+1<=999999999999993 by exact z274 k) (by exact z275 d) (by decide)) (by decide);have f:(2+b+1)*3<=(2+b+1)*(2+b+1):=bH (by exact z276 d) (by exact z275 d)
 (simp only[gP,jv,bV])
 refine⟨by decide,?_⟩;refine fR (λp=>?_) (λp=>?_)
 ·walk_at"wp";refine⟨oU (by exact z277 i l),ye rfl,ye rfl,?_⟩;exact h (.split ((2+a)*(2+b)) (2+a) (2+b)) ⟨by exact aZ i,by exact aZ d,by exact z278 l,by exact z279 k,rfl,n⟩ ⟨trivial,λ_=>(u2 (by exact aZ i) (by exact aZ d)).symm⟩ (show 3<=(2+a)*(2+b) by exact z280 i g) rfl
 ·walk_at"wp";refine⟨by decide,?_⟩
  (simp only[gP,jv,bV])
  refine fR (λp=>?_) (λp=>?_)
  ·walk_at"wp";refine⟨oU (by exact z277 i l),ye rfl,ye rfl,?_⟩;exact h (.power ((2+a)*(2+b)) (2+a)) ⟨by exact z281 i g,n,by exact z282 i,by exact z283 i g⟩ ⟨⟨by exact z284 i g,FE (by exact aZ i) (by exact aZ d)⟩,λ_=>(u2 (by exact aZ i) (by exact aZ d)).symm⟩ (show 3<=(2+a)*(2+b) by exact z280 i g) rfl
  ·walk_at"wp";refine⟨oU (by exact z285 d k),ye rfl,ye rfl,?_⟩;have j:(2+b+1)*(2+b+1)%((2+b+1)*(2+b+1)-1)=1:=by generalize (2+b+1)*(2+b+1)=y at f;rw[show y=1+(y-1) by exact iV.mp rfl,show 1+(y-1)-1=y-1 by exact iV.mpr rfl,Int.add_emod_right];exact ko (by decide) (by exact z286 d f)
   refine h (.root ((2+b+1)*(2+b+1)-1) (2+b+1)) ⟨by exact z287 d f,by exact z288 q,by exact z289 d,by exact z290 d f⟩ ⟨⟨by exact z291 d,by exact z292 d f,j⟩,λ_=>?_⟩ (show 3<=(2+b+1)*(2+b+1)-1 by exact z293 d f) rfl;have e:=Dw (2+b);show false=isPB ((2+b+1)*(2+b+1)-1).toNat;rw[e,u2 (by exact aZ d) (by exact z294 d)]
noncomputable def fstA (y:AV):AV:=match y with|.tup (x::_)=>x|_=>.none
def tR (Φ:Fun):Prop:=∀(r:Rw) (H:Hp) (Q:PQ),r.ok->Q (.ref H.length) (H++[.list (r.needs.map .int)])->Φ "_law_needs" [r.av] H Q
theorem needs {r:Rw}{Q:PQ}(f:r.ok) (h:Q (.ref H.length) (H++[.list (r.needs.map .int)])):wpF Φ oW [r.av] H Q:=by
 cases r with
 | prime n b ps =>
  simp only[Rw.av,psT]
  ((refine⟨rfl,?_⟩;simp only[lst,aM,aO,am]))
  simp only[oW];walk_at"wp";refine⟨by simp[ag],?_⟩;refine gC (λ_=>?_) (λc=>absurd c (by decide));walk_at"wp";refine⟨by simp[ag],by simp[ag],?_⟩;have e:ps.length<=10:=f.2.2.2.2.2.1;refine rf fstA (by simp;exact szL (by exact z295 e)) trivial (λy g=>?_) ?_
  ·refine aK (yh g) λp j d=>?_;subst d;refine⟨[.int p.1,.int p.2],rfl,λi q=>?_⟩;walk_at"wp";exact q
  ·walk_at"wp";have:(ps.map prAV).map fstA=(Rw.prime n b ps).needs.map .int:=(cE ..).trans ((rfl:_=List.map (AV.int∘λx:Int×Int=>x.1) ps).trans (cE ..).symm);rw[this];exact h
 | first =>
  simp only[Rw.av]
  ((refine⟨rfl,?_⟩;simp only[lst,aM,aO,am]))
  simp only[oW];walk_at"wp";refine⟨by decide,?_⟩;refine gC (λc=>absurd c (by decide)) (λ_=>?_);walk_at"wp";refine⟨by decide,?_⟩;exact h
 | split n a b =>
  simp only[Rw.av]
  ((refine⟨rfl,?_⟩;simp only[lst,aM,aO,am]))
  simp only[oW];walk_at"wp";refine⟨by simp[ag],?_⟩;refine gC (λc=>absurd c (by decide)) (λ_=>?_);walk_at"wp";refine⟨by decide,?_⟩;exact h
 | power n b =>
  simp only[Rw.av]
  ((refine⟨rfl,?_⟩;simp only[lst,aM,aO,am]))
  simp only[oW];walk_at"wp";refine⟨by simp[ag],?_⟩;refine gC (λc=>absurd c (by decide)) (λ_=>?_);walk_at"wp";refine⟨by decide,?_⟩;exact h
 | root n b =>
  simp only[Rw.av]
  ((refine⟨rfl,?_⟩;simp only[lst,aM,aO,am]))
  simp only[oW];walk_at"wp";refine⟨by simp[ag],?_⟩;refine gC (λc=>absurd c (by decide)) (λ_=>?_);walk_at"wp";refine⟨by decide,?_⟩;exact h
end
section
open PySem
def DOK (P:Rw->Prop) (D:List (Int×AV)):Prop:=∀e∈D,∃r:Rw,r.ok/\P r/\r.num=e.1/\e.2=r.av
theorem xG:∀{ps a:List (Int×Int)},ps.map prAV=a.map prAV->ps=a
 | [],[],_=>rfl
 | p::r,q::s,h=>by simp only[aF,gW,prAV,AV.tup.injEq,AV.int.injEq,and_true] at h;rw[xG h.2,mR h.1.1 h.1.2]
theorem DM {ps a:List (Int×Int)}(h:psT ps=psT a):ps=a:=xG (AV.tup.inj h)
theorem uX {r s:Rw}(h:r.av=s.av):r.needs=s.needs:=by cases r<;>cases s<;>simp only[Rw.av,AV.tup.injEq,gW,AV.str.injEq,AV.int.injEq,and_true] at h<;>first|rfl|(obtain⟨_,_,_,h⟩:=h;rw[Rw.needs,Rw.needs,DM h])|exact absurd h.2.1 (by decide)
noncomputable def n2 (D:List (Int×AV)):Nat:=D.countP λe=>!decide (e.1=2)
noncomputable def o2 (D:List (Int×AV)):Nat:=D.countP λe=>decide (e.1=2)
theorem vZ (D:List (Int×AV)):D.length=n2 D+o2 D:=by
 induction D with
 | nil=>rfl
 | cons e D ih =>
  simp only[n2,o2,dH,b_] at ih ⊢
  by_cases h:e.1=2<;>simp[h]<;>lia
theorem sU {k:Int}(h:dget D k=none):∀e∈D,e.1≠k:=by intro e a b;simp only[dget,lM,List.find?_eq_none,decide_eq_true_eq] at h;exact h e a b
theorem pR {D:List (Int×AV)}{k:Int}{v:AV}(h:dget D k=some v):(k,v)∈D:=by simp only[dget,d5] at h;refine aK (h) λe b a=>?_;clear h;subst a;have c:=List.find?_some b;simp only[decide_eq_true_eq] at c;have:=List.mem_of_find?_eq_some b;rw[<-c];exact this
theorem sG {e:Int×AV}(h:e∈D):∃v,dget D e.1=some v:=by
 cases a:dget D e.1 with
 | some v=>exact⟨v,rfl⟩
 | none=>exact absurd rfl (sU a e h)
theorem sH {D:List (Int×AV)}{k:Int}{v:AV}(h:dget D k=none):dset D k v=D++[(k,v)]:=by unfold dset;rw[if_neg];intro a;simp only[iH,decide_eq_true_eq] at a;refine aK (a) λe b c=>?_;clear a;exact sU h e b c
theorem yM {k:Int}(h:dget D k=none):dget (D++[(k,v)]) k=some v:=by simp only[dget,lM] at h;simp[dget,List.find?_append,h]
def WG (w:Nat):Prop:=2<=w/\(w<=401\/(w<=20000/\isPB w=false))
def WOK (W:List Nat):Prop:=∀w∈W,WG w
theorem Aj {n:Nat}(h:isPB n=false):T n=1/\T2 n=(if n=2 then 0 else 1)/\nxN n=[]/\nx n=[]:=by
 have e:nx n=[]:=by unfold nx;rw[h];rfl
 have a:nxN n=[]:=by unfold nxN;rw[e];rfl
 exact⟨by show trT 12 n=1;rw[trT,a];rfl,by show tr2 12 n=_;rw[tr2,a];rfl,a,e⟩
theorem rI {n:Nat}(h:WG n):T n=1+((nxN n).map T).sum/\T2 n=(if n=2 then 0 else 1)+((nxN n).map T2).sum/\T n<=20/\T2 n<=7/\WOK (nxN n)/\∀q∈nx n,0<=q:=by
 rcases h.2 with h|⟨_,h⟩
 ·refine m7 (Ak h) λi j k l b m=>?_;exact⟨i,j,k,l,λw a=>⟨(b w a).1,.inl (b w a).2⟩,m⟩
 ·refine jA (Aj h) λc d e f=>?_;rw[c,d,e,f];exact⟨rfl,rfl,by decide,(by split<;>decide),(λw a=>by cases a),λq g=>by cases g⟩
noncomputable def wI (W:List Nat):List AV:=W.map λ(w:Nat)=>AV.int (w:Int)
structure RsC (P:Rw->Prop) (N:Nat) (rs:List Rw):Prop where
 ne:rs≠[]
 len:rs.length<=N+1
 ok:∀r∈rs,r.ok
 p:∀r∈rs,P r
 inc:(rs.map Rw.num).Pairwise (·<·)
 cl:N<=40->∀r∈rs,∀q∈r.needs,∃s∈rs,s.num=q
structure Inv (P:Rw->Prop) (N:Nat) (D:List (Int×AV)) (W:List Nat):Prop where
 d:DOK P D
 o:o2 D<=1
 w:WOK W
 n:n2 D+(W.map T2).sum<=N
 e:D≠[]\/W≠[]
 nd:(D.map (·.1)).Nodup
 cl:N<=40->∀r:Rw,(r.num,r.av)∈D->∀q∈r.needs,(∃v,dget D q=some v)\/∃w∈W,(w:Int)=q
theorem wE {l:List Int}(h:l.Pairwise (·<=·)) (n:l.Nodup):l.Pairwise (·<·):=by
 induction l with
 | nil=>exact .nil
 | cons x r ih =>
  rw[cy] at h;rw[fo] at n;refine cy.mpr ⟨λy a=>?_,ih h.2 n.2⟩;have:=h.1 y a;rcases Int.lt_or_eq_of_le this with q|q
  ·exact q
  ·subst q;exact absurd a n.1
theorem Eh {E:List (Int×AV)}{k:Int}(h:dget D k=some v):∃u,dget (D++E) k=some u:=by refine cG (sG (eO E (pR h))) λu a=>?_;exact⟨u,a⟩
theorem rJ {W:List Nat}(h:WOK W):W.length<=(W.map T).sum:=by
 induction W with
 | nil=>simp
 | cons w W ih =>
  have a:=(rI (h w (by simp))).1;have:=ih λx b=>h x (by simp[b]);simp only[b_,aF,jD];exact z296 a this
theorem xK {P:Rw->Prop}{D:List (Int×AV)}(b:DOK P D):∀(ms:List Int),(∀k∈ms,∃v,dget D k=some v)->∃rs:List Rw,(ms.map λk=>(dget D k).getD .none)=rs.map Rw.av/\rs.map Rw.num=ms/\∀r∈rs,r.ok/\P r/\(r.num,r.av)∈D
 | [],_=>⟨[],rfl,rfl,λ_ h=>by cases h⟩
 | k::ms,h=>by
  refine cG (h k (by simp)) λv hv=>?_;refine lB (b _ (pR hv)) λr i j c d=>?_;have rd:(r.num,r.av)∈D:=by rw[c,<-d];exact pR hv
  refine eT (xK b ms λx a=>h x (by simp[a])) λrs e f g=>?_;refine⟨r::rs,?_,by simp[f,c],λx a=>?_⟩
  ·simp only[aF,e,hv,jW];rw[<-d]
  ·rcases yg a with rfl|a
   ·exact⟨i,j,rd⟩
   ·exact g x a
noncomputable def getA (D:List (Int×AV)) (y:AV):AV:=match y with|.int k=>(dget D k).getD .none|_=>.none
theorem Ck {Q:PQ}{l:List (Int×AV)}(h:H[i]?=some (.dict l)) (a:l.length<=1000) (q:Q (.int l.length) H):wpBi .len [.ref i] H Q:=by rw[Bm h];exact⟨by exact z123 a,q⟩
theorem oE {Q:PQ}{l:List (Int×AV)}{k:Int}(h:H[i]?=some (.dict l)) (q:Q (.bool !(dget l k).isSome) H):kt .notIn (.int k) (.ref i) H Q:=by
 have:wpIn (.int k) (.ref i) H (λb=>Q (.bool !b) H):=by simp only[wpIn,h];exact⟨k,rfl,q⟩
 exact this
theorem pO {K:Hp->Prop}{l:List (Int×AV)}{k:Int}{x:AV}(h:H[i]?=some (.dict l)) (a:l.length<=1000) (q:K (H.set i (.dict (dset l k x)))):pI (.ref i) (.int k) x H K:=by simp only[pI,asI,h];exact⟨szL a,q⟩
theorem tZ {Q:PQ}{x:AV}(h:H[i]?=some (.list (l++[x]))) (a:l.length<=900) (q:Q x (H.set i (.list l))):wpMt .pop (.ref i) [] H Q:=by show onL (.ref i) H _;rw[q_ h];exact⟨rfl,szL (by simp;exact z297 a),l,x,rfl,q⟩
theorem wz {Q:PQ}{m:List AV}(h:H[i]?=some (.list l)) (a:H[j]?=some (.list m)) (b:l.length+m.length<=1000) (q:Q .none (H.set i (.list (l++m)))):wpMt .extend (.ref i) [.ref j] H Q:=by
 show onL (.ref i) H _;rw[q_ h];have:onL (.ref j) H (λ_ m=>l.length+m.length<=1000000/\Q .none (H.set i (.list (l++m)))):=by rw[q_ a];exact⟨by exact z298 b,q⟩
 exact this
theorem i7 {o:AObj}(h:i≠j):(H.set i o)[j]?=H[j]?:=m3 h
theorem lS {o o':AObj}(h:H[i]?=some o'):(H.set i o)[i]?=some o:=by rw[fg (ym h).1]
def w9 (Φ:Fun):Prop:=∀(P:Rw->Prop) (N i j k n:Nat) (D:List (Int×AV)) (W:List Nat) (cs:List Int) (H H0:Hp) (Q:PQ),(∀r:Rw,r.ok->r.tru->P r)->N<=62->H[i]?=some (.dict D)->H[j]?=some (.list (wI W))->H[k]?=some (.list (cs.map .int))->nU cs n->1<=n->n<=1000->i≠j->i≠k->j≠k->H0<+:H->H0.length<=i->H0.length<=j->Inv P N D W->(W.map T).sum<=500 ->
 (∀m rs H' D',H0<+:H'->H0.length<=m->H'[m]?=some (.list (rs.map Rw.av))->RsC P N rs->H'[i]?=some (.dict D')->Inv P N D' []->H'[k]?=some (.list (cs.map .int))->Q (.ref m) H')->Φ "_law_closed" [.ref i,.ref j,.ref k] H Q
theorem Be {Φ:Fun}(c1:SIsP Φ) (c2:vS Φ) (c3:vT Φ) (c4:tR Φ){P:Rw->Prop}{N i j k n:Nat}{D:List (Int×AV)}{W:List Nat}{cs:List Int}{H H0:Hp}{Q:PQ}(hP:∀r:Rw,r.ok->r.tru->P r) (hN:N<=62) (hi:H[i]?=some (.dict D)) (hj:H[j]?=some (.list (wI W))) (hk:H[k]?=some (.list (cs.map .int))) (hc:nU cs n) (Y:1<=n) (hn:n<=1000) (ij:i≠j) (ik:i≠k) (jk:j≠k) (hp:H0<+:H) (i0:H0.length<=i) (j0:H0.length<=j) (inv:Inv P N D W) (B:(W.map T).sum<=500)
  (h:∀m rs H' D',H0<+:H'->H0.length<=m->H'[m]?=some (.list (rs.map Rw.av))->RsC P N rs->H'[i]?=some (.dict D')->Inv P N D' []->H'[k]?=some (.list (cs.map .int))->Q (.ref m) H'):wpF Φ vw [.ref i,.ref j,.ref k] H Q:=by
 ((refine⟨rfl,?_⟩;simp only[lst,aM,aO,am]))
 simp only[vw];walk_at"wp";refine oy (λt loc H'=>∃(D:List (Int×AV)) (W:List Nat) (o1 o2:Option AV),loc=[some (.ref i),some (.ref j),some (.ref k),o1,o2]/\H'[i]?=some (.dict D)/\H'[j]?=some (.list (wI W))/\H'[k]?=some (.list (cs.map .int))/\H0<+:H'/\Inv P N D W/\(W.map T).sum=t/\t<=500) _ ⟨D,W,none,none,rfl,hi,hj,hk,hp,inv,rfl,B⟩ ?_;clear hi hj hk hp inv B D W H;intro t loc H a1;refine te (a1) λD W o1 ao ab hi hj aa=>?_;clear a1;subst ab;refine oh (aa) λhk hp inv B ht=>?_;clear aa;have ad:=rJ inv.w;have al:=vZ D;have l:D.length<=63:=by have:=inv.o;have:=inv.n;lia
 walk_at"wp";refine oP hj (by simp[wI];exact z299 B ht ad) ?_;walk_at"wp";refine fR (λh1=>?_) (λh1=>?_)
 ·have hW:W≠[]:=by rintro rfl;simp[wI] at h1
  obtain⟨A,x,rfl⟩:∃A x,W=A++[x]:=⟨W.dropLast,W.getLast hW,(fp hW).symm⟩;have hx:=inv.w x (by simp);refine m7 (rI hx) λt1 t2 t3 t4 t5 t6=>?_;have a4:H[j]?=some (.list (wI A++[.int x])):=by rw[hj];simp[wI]
  have w':WOK A:=λw f=>inv.w w (by simp[f]);rw[aQ,eK] at B;simp only[aF,g9,jD,List.sum_nil] at B;have z:=inv.n;rw[aQ,eK] at z;simp only[aF,g9,jD,List.sum_nil] at z;have S:=rJ w';walk_at"wp";refine⟨mr a4,?_⟩;refine tZ a4 (by simp[wI];exact z300 ht B S) ?_;generalize K:H.set j (.list (wI A))=J;have u:J[i]?=some (.dict D):=by rw[<-K,i7 (Ne.symm ij)];exact hi
  have a3:J[j]?=some (.list (wI A)):=by rw[<-K];exact lS hj
  have R:J[k]?=some (.list (cs.map .int)):=by rw[<-K,i7 jk];exact hk
  have a8:H0<+:J:=by rw[<-K];exact lU hp j0
  walk_at"wp";refine oE u ?_;walk_at"wp";cases X:dget D x with
  | some v =>
   simp only[Option.isSome_some];walk_at"wp";refine nX _ (by exact z301 t1 B) ⟨D,A,_,_,rfl,u,a3,R,a8,⟨inv.d,inv.o,w',by exact z302 z,.inl (by rintro rfl;simp[dget] at X),inv.nd,λF r I q C=>?_⟩,rfl,by exact z303 ht B⟩;rcases inv.cl F r I q C with c|⟨w,f,e⟩
   ·exact .inl c
   ·rcases yd f with f|f
    ·exact .inr ⟨w,f,e⟩
    ·rw[yb f] at e;subst e;exact .inl ⟨v,X⟩
  | none =>
   simp only[Option.isSome_none];walk_at"wp";refine Ck u (by exact z124 l) ?_;walk_at"wp";have V:=hc.len;refine oP R (by simp;exact z185 hn V) ?_;walk_at"wp";refine⟨by rw[ya];exact z304 Y V,?_⟩;simp only[ya,V];rw[gP (by exact z158)];refine lk R hc hn (aT _ (by exact dw.mpr Y)) (yk _ (by exact fW.mpr Y)) λc c0 ak=>?_;walk_at"wp";refine c1 x J _ hx.1 (by have:=hx.2;lia) ?_;have U:∀r:Rw,r.ok->r.tru->r.num=x->r.needs=nx x->wpSs Φ [MS.expr (.meth .extend (.loc 1) [.call "_law_needs" [.idx (.loc 0) (.loc 3)]])] [some (.ref i),some (.ref j),some (.ref k),some (.int x),some (.int c)] (J.set i (.dict (dset D x r.av))) (o_ Φ [] (whlK (λt loc H'=>∃(D:List (Int×AV)) (W:List Nat) (o1 o2:Option AV),loc=[some (.ref i),some (.ref j),some (.ref k),o1,o2]/\H'[i]?=some (.dict D)/\H'[j]?=some (.list (wI W))/\H'[k]?=some (.list (cs.map .int))/\H0<+:H'/\Inv P N D W/\(W.map T).sum=t/\t<=500) t (o_ Φ [MS.ret (.comp false 1 (.idx (.loc 0) (.loc 5)) .plain [.bi .sorted [.loc 0]] [])] (i6 Q)))):=by
    intro r I a9 a7 p;rw[sH X];generalize L:J.set i (.dict (D++[((x:Int),r.av)]))=H2;have a2:H2[i]?=some (.dict (D++[((x:Int),r.av)])):=by rw[<-L];exact lS u
    have O:H2[j]?=some (.list (wI A)):=by rw[<-L,i7 ij];exact a3
    have af:H2[k]?=some (.list (cs.map .int)):=by rw[<-L,i7 ik];exact R
    have ai:H0<+:H2:=by rw[<-L];exact lU a8 i0
    walk_at"wp";refine⟨mr O,?_⟩;rw[oN a2];refine⟨r.av,yM X,?_⟩;walk_at"wp";refine c4 r H2 _ I ?_;walk_at"wp";have ah:(nx x).length<=20:=by have h1:=rJ t5;simp only[nxN,ya] at h1;simp only[nxN] at t1;exact z305 t1 t3 h1
    have ew:wI A++r.needs.map .int=wI (A++nxN x):=by rw[p];simp only[wI,aQ,nxN,cE,ly];refine cF λq C=>?_;have:=t6 q C;simp only[Function.comp];congr 1;exact gU.mpr this
    refine wz (dJ bR O) dG (by rw[p];simp[wI];exact z306 ht B S ah) ?_;rw[ew];walk_at"wp";have an:j<H2.length:=(ym O).1;refine nX ((A++nxN x).map T).sum ?_ ⟨D++[((x:Int),r.av)],A++nxN x,_,_,rfl,?_,?_,?_,?_,⟨?_,?_,?_,?_,?_,?_,?_⟩,rfl,?_⟩
    ·rw[aQ,eK];exact z307 t1 B
    ·rw[i7 (Ne.symm ij)];exact dJ bR a2
    ·exact lS (dJ bR O)
    ·rw[i7 jk];exact dJ bR af
    ·exact lU (ai.trans bR) j0
    ·intro e M;rcases yd M with M|M
     ·exact inv.d e M
     ·rw[yb M];exact⟨r,I,hP r I a9,a7,rfl⟩
    ·simp only[o2,jJ]
     by_cases e:(x:Int)=2
     ·have h0:o2 D=0:=by simp only[o2,List.countP_eq_zero];intro e' ae;have:=sU X e' ae;simp;exact z308 e this
      simp only[o2] at h0;simp[h0,dH,e]
     ·have:=inv.o;simp only[o2] at this;simp[dH,e];exact z309 this
    ·intro w f;rcases yd f with f|f
     ·exact w' w f
     ·exact t5 w f
    ·simp only[n2,jJ,aQ,eK];simp only[n2] at z
     by_cases e:x=2
     ·have:(x:Int)=2:=by exact Int.neg_inj.mp (congrArg Neg.neg (congrArg Nat.cast e))
      rw[if_pos e] at t2;simp[dH,this];exact z310 t2 z
     ·have:¬ (x:Int)=2:=by exact Nat.ToInt.of_diseq rfl rfl e
      rw[if_neg e] at t2;simp[dH,this];exact z311 t2 z
    ·exact .inl (by simp)
    ·rw[aQ,dU];refine⟨inv.nd,by simp,λa ha b hb=>?_⟩;refine aK (yh ha) λe M E=>?_;subst E;simp only[aF,g9,fV] at hb;subst hb;exact sU X e M
    ·intro F s Z q C;rcases yd Z with Z|Z
     ·rcases inv.cl F s Z q C with⟨v,c⟩|⟨w,f,e⟩
      ·exact .inl (Eh c)
      ·rcases yd f with f|f
       ·exact .inr ⟨w,eO _ f,e⟩
       ·rw[yb f] at e;subst e;exact .inl ⟨_,yM X⟩
     ·have e:=congrArg ln (yb Z);rw[uX e,p] at C;have:=t6 q C;exact .inr ⟨q.toNat,eF _ (yo ⟨q,C,rfl⟩),bb this⟩
    ·rw[aQ,eK];exact z312 ht t1 B
   walk_at"wp";cases G:isPB x with
   | true =>
    walk_at"wp";refine c2 x c J _ hx.1 (by rcases hx.2 with q|⟨_,q⟩;exact q;rw[q] at G;cases G) G c0 λr r1 rt r2 r3=>?_;walk_at"wp";refine pO u (by exact z124 l) ?_;simp only[k_sto4,thenS_next,ss_nil];exact U r r1 rt r2 r3
   | false =>
    walk_at"wp";refine c3 x c J _ hx.1 (by have:=hx.2;lia) G c0 λr r1 rt r2 r3=>?_;walk_at"wp";refine pO u (by exact z124 l) ?_;simp only[k_sto4,thenS_next,ss_nil];exact U r r1 rt r2 (by rw[r3];simp[nx,G])
 ·have hW:W=[]:=by
   cases W with
   | nil=>rfl
   | cons w W=>exact absurd (by simp[wI];try lia) h1
  subst hW;have ac:D≠[]:=by rcases inv.e with h2|h2;exact h2;exact absurd rfl h2
  walk_at"wp";refine⟨D.map (·.1),.inr ⟨i,D,rfl,hi,rfl⟩,by rw[ya];exact z313 l,λms g a0=>?_⟩;walk_at"wp";rw[oB dG];have a5:ms.length=D.length:=by rw[g.length_eq,ya]
  have a6:∀y∈ms,∃v,dget D y=some v:=λy hy=>by refine aK (yh (g.mem_iff.mp hy)) λe M E=>?_;subst E;exact sG M
  refine eT (xK inv.d ms a6) λrs r1 r2 r3=>?_;refine rf (getA D) (by rw[ya];exact szL (by exact z314 l a5)) dG (λy hy=>?_) ?_
  ·refine aK (yh hy) λq C E=>?_;subst E;refine cG (a6 q C) λv hv=>?_;refine⟨[.int q],rfl,λQ' qq=>?_⟩;walk_at"wp";rw[oN (dJ bR hi)];refine⟨v,hv,?_⟩;simp only[getA,hv,jW] at qq;exact qq
  ·walk_at"wp";have e:(ms.map AV.int).map (getA D)=rs.map Rw.av:=by rw[<-r1,cE];rfl
   rw[e];have aj:rs.length=D.length:=by have:=congrArg eg r2;simp at this;exact z315 a5 this
   have ag:ms.Nodup:=g.nodup_iff.mpr inv.nd;refine h _ rs _ D (hp.trans (bR.trans bR)) ?_ dG ⟨?_,by have:=inv.o;have:=inv.n;simp at this;lia,λr I=>(r3 r I).1,λr I=>(r3 r I).2.1,by rw[r2];exact wE a0 ag,?_⟩ (dJ (bR.trans bR) hi) inv (dJ (bR.trans bR) hk)
   ·have:=hp.length_le;simp;exact c6 this
   ·rintro rfl;cases D with
    | nil=>exact ac rfl
    | cons=>simp at aj
   ·intro F r I q C;rcases inv.cl F r (r3 r I).2.2 q C with⟨v,c⟩|⟨w,f,_⟩
    ·have:q∈ms:=g.mem_iff.mpr (yo ⟨_,pR c,rfl⟩);rw[<-r2] at this;refine aK (yh this) λs Z e=>?_;exact⟨s,Z,e⟩
    ·cases f
end
section
open PySem
theorem xJ {r:Rw}{Q:PQ}(q:Q (.int r.num) H):jT r.av (.int 0) H Q:=by cases r<;>(simp only[Rw.av,i_tup0];exact⟨by(first|exact ye rfl|simp),q⟩)
theorem yW (f:Int->Bool) (D:List (Int×AV)) (k:Int) (v:AV):(dset D k v).countP (λe=>f e.1)<=D.countP (λe=>f e.1)+(if f k then 1 else 0):=by
 unfold dset;split
 ·rw[List.countP_map];have:((λe:Int×AV=>f e.1)∘λa=>if a.1=k then (a.1,v) else a)=λe=>f e.1:=by funext e;simp only[Function.comp];split<;>rfl
  rw[this];exact z9
 ·rw[jJ];simp only[dH,iU];lia
theorem Cn {P:Rw->Prop}(h:DOK P D){r:Rw}(f:r.ok) (d:P r):DOK P (dset D r.num r.av):=by
 unfold dset;split
 ·intro e a;refine aK (yh a) λg c b=>?_;subst b;split
  ·rename_i i;exact⟨r,f,d,i.symm,rfl⟩
  ·exact h g c
 ·intro e a;rcases yd a with a|a
  ·exact h e a
  ·rw[yb a];exact⟨r,f,d,rfl,rfl⟩
theorem EH {k:Int}{e:Int×AV}(h:e∈dset D k v):e∈D\/e=(k,v):=by
 unfold dset at h;split at h
 ·refine aK (yh h) λd b a=>?_;subst a;split
  ·rename_i c;exact .inr (by rw[c])
  ·exact .inl b
 ·rcases yd h with h|h
  ·exact .inl h
  ·exact .inr (yb h)
theorem yN {D:List (Int×AV)}{k:Int}{v:AV}:(dset D k v).map (·.1)=D.map (·.1)\/((dset D k v).map (·.1)=D.map (·.1)++[k]/\k∉D.map (·.1)):=by
 unfold dset;split
 ·refine .inl ?_;rw[cE];refine cF λe _=>?_;simp only[Function.comp];split<;>rfl
 ·rename_i h;refine .inr ⟨by simp,λc=>h ?_⟩;refine aK (yh c) λe b a=>?_;subst a;exact iH.mpr ⟨e,b,by simp⟩
theorem Cl {k:Int}(h:(D.map (·.1)).Nodup):((dset D k v).map (·.1)).Nodup:=by
 rcases @yN D k v with e|⟨e,f⟩
 ·rw[e];exact h
 ·rw[e,dU];exact⟨h,by simp,λa c b d=>by rw[yb d];rintro rfl;exact f c⟩
theorem yL :q∈D.map (·.1)↔∃v,dget D q=some v:=by
 constructor
 ·intro h;refine aK (yh h) λe b a=>?_;subst a;exact sG b
 ·rintro⟨v,hv⟩;exact yo ⟨_,pR hv,rfl⟩
theorem EG {k:Int}(h:(∃u,dget D q=some u)\/q=k):∃u,dget (dset D k v) q=some u:=by
 rw[<-yL] at h ⊢;rcases @yN D k v with e|⟨e,d⟩
 ·rw[e];rcases h with h|rfl
  ·exact h
  ·have:q∈(dset D q v).map (·.1):=by
    unfold dset;split
    ·rename_i b;refine aK (iH.mp b) λx c a=>?_;have a:x.1=q:=by simpa using a
     refine yo ⟨(x.1,v),yo ⟨x,c,?_⟩,a⟩;rw[if_pos a]
    ·simp
   rw[e] at this;exact this
 ·rw[e];rcases h with h|rfl
  ·exact eO _ h
  ·exact eF _ (by simp)
theorem Cm {k:Int}:dset D k v≠[]:=by
 unfold dset;split
 ·rename_i h;cases D with
  | nil=>simp at h
  | cons=>simp
 ·simp
theorem wV {W:List Nat}{f:Nat->Nat}{b:Nat}(h:∀w∈W,f w<=b):(W.map f).sum<=W.length*b:=by
 induction W with
 | nil=>simp
 | cons w W ih =>
  have a:=h w (by simp);have c:=ih λx d=>h x (by simp[d]);simp only[aF,jD,b_,Nat.add_mul,ji];exact z316 a c
abbrev RsOK (rs:List Rw):Prop:=RsC Rw.tru 40 rs
def uD (Φ:Fun):Prop:=∀(k n:Nat) (cs:List Int) (H:Hp) (Q:PQ),H[k]?=some (.list (cs.map .int))->nU cs n->8<=n->n<=1000->(∀rs,RsOK rs->Q (.ref H.length) (H++[.list (rs.map Rw.av)]))->Φ "_law_rows_by" [.ref k] H Q
theorem Ds {Φ:Fun}(c1:SBig Φ) (c2:wg Φ) (c3:tR Φ) (c4:w9 Φ){k n:Nat}{cs:List Int}{H:Hp}{Q:PQ}(B:H[k]?=some (.list (cs.map .int))) (E:nU cs n) (G:8<=n) (F:n<=1000)
  (h:∀m rs H',H<+:H'->H.length<=m->H'[m]?=some (.list (rs.map Rw.av))->RsOK rs->Q (.ref m) H'):wpF Φ oV [.ref k] H Q:=by
 have kl:k<H.length:=(ym B).1;have r4:∀(j:Nat) (D:List (Int×AV)) (W:List Nat) (o:Option AV) (b:Hp),H.length<j->b[H.length]?=some (.dict D)->b[j]?=some (.list (wI W))->H<+:b->Inv Rw.tru 40 D W->(W.map T).sum<=500->wpSs Φ (oV.body.drop 4) [some (.ref k),some (.ref H.length),some (.ref j),o] b (i6 Q):=by intro j D W o b g C J f inv hT;simp only[oV,hF];walk_at"wp";refine c4 Rw.tru 40 H.length j k n D W cs b H _ (λ_ _ t=>t) (by decide) C J (dJ f B) E (by exact fN G) F (by exact bM g) (by exact Ne.symm (bM kl)) (by exact z317 kl g) f (az _) (by exact bw g) inv hT λm rs H' D' p1 p2 p3 p4 _ _ _=>?_;walk_at"wp";exact h m rs H' p1 p2 p3 p4
 have r3:∀(j:Nat) (D:List (Int×AV)) (W:List Nat) (o:Option AV) (b:Hp),H.length<j->b[H.length]?=some (.dict D)->b[j]?=some (.list (wI W))->H<+:b->Inv Rw.tru 40 D W->n2 D+(W.map T2).sum<=39->(W.map T).sum<=500->wpSs Φ (oV.body.drop 3) [some (.ref k),some (.ref H.length),some (.ref j),o] b (i6 Q):=by
  intro j D W o b g C J f inv p hT;simp only[oV,hF];walk_at"wp";refine lk (dJ f B) E F (by decide) (by exact jS G) λx P x1=>?_;walk_at"wp";refine⟨by decide,?_⟩
  (simp only[gP,jv,bV])
  refine fR (λ_=>?_) (λ_=>?_)
  ·walk_at"wp";refine lk (dJ f B) E F (by decide) (by exact jS G) λx P x1=>?_;walk_at"wp";refine lk (dJ f B) E F (by decide) (by exact z318 G) λy y0 y1=>?_;walk_at"wp";refine c2 x y b _ P x1 y0 y1 λr hr rt r3 rn=>?_;walk_at"wp";refine xJ ?_;walk_at"wp";have a2:=vZ D;refine pO C (by have:=inv.o;exact z319 p a2 this) ?_;have k1:=yW (λk=>!decide (k=2)) D r.num r.av;have k2:=yW (λk=>decide (k=2)) D r.num r.av;rw[if_neg (by simp;exact Int.ne_of_gt r3)] at k2;rw[if_pos (by simp;exact Int.ne_of_gt r3)] at k1;simp only[k_sto4,thenS_next,ss_nil];refine r4 j (dset D r.num r.av) W _ _ g (lS C) (by rw[i7 (by exact bM g)];exact J) (lU f (az _)) ⟨Cn inv.d hr rt,?_,inv.w,?_,.inl Cm,Cl inv.nd,λR s p q v=>?_⟩ hT
   ·have:=inv.o;simp only[o2] at this ⊢;exact aa k2 this
   ·simp only[n2] at p ⊢;exact z320 p k1
   ·rcases EH p with p|p
    ·rcases inv.cl R s p q v with c|c
     ·exact .inl (EG (.inl c))
     ·exact .inr c
    ·rw[uX (congrArg ln p),rn] at v;cases v
  ·simp only[k_itef,ss_nil,thenS_next];exact r4 j D W o b g C J f inv hT
 have r2:∀(j:Nat) (W:List Nat) (b:Hp),H.length<j->b[H.length]?=some (.dict [])->b[j]?=some (.list (wI W))->H<+:b->WOK W->1<=W.length->W.length<=5->wpSs Φ (oV.body.drop 2) [some (.ref k),some (.ref H.length),some (.ref j),none] b (i6 Q):=by
  intro j W b g C J f A w1 w5;have s1:(W.map T).sum<=100:=aa (wV λw a=>(rI (A w a)).2.2.1) (by exact z321 w5);have s2:(W.map T2).sum<=35:=aa (wV λw a=>(rI (A w a)).2.2.2.1) (by exact z322 w5);have a4:W≠[]:=by rintro rfl;simp at w1
  simp only[oV,hF];walk_at"wp";refine lk (dJ f B) E F (by decide) (by exact z323 G) λx P x1=>?_;walk_at"wp";refine⟨by decide,?_⟩
  (simp only[gP,jv,bV])
  refine fR (λ_=>?_) (λ_=>?_)
  ·walk_at"wp";refine lk (dJ f B) E F (by decide) (by exact z323 G) λx P x1=>?_;walk_at"wp";refine⟨by decide,mq (by decide),?_⟩;rw[jv (by decide)];refine c1 (x/4) b _ (by exact z324 P) λr hr rt a7 Z=>?_;walk_at"wp";refine xJ ?_;walk_at"wp";refine pO C (by simp) ?_;have e1:dset [] r.num r.av=[(r.num,r.av)]:=rfl;rw[e1];generalize L:b.set H.length (.dict [(r.num,r.av)])=H2;have a1:H2[H.length]?=some (.dict [(r.num,r.av)]):=by rw[<-L];exact lS C
   have K:H2[j]?=some (.list (wI W)):=by rw[<-L,i7 (by exact bM g)];exact J
   have a5:H<+:H2:=by rw[<-L];exact lU f (az _)
   walk_at"wp";refine⟨mr K,?_⟩;refine c3 r H2 _ hr ?_;walk_at"wp";refine fT (Z) λO Y a6=>?_;clear Z;have ew:wI W++r.needs.map .int=wI (W++r.needs.map aG):=by simp only[wI,aQ,cE,ly];refine cF λq v=>?_;have:=O q v;simp only[Function.comp];congr 1;exact z325 this
   have X:WOK (r.needs.map aG):=λw A=>by refine aK (yh A) λq v a0=>?_;subst a0;have:=O q v;exact⟨by exact z326 this,.inl (by exact z327 this)⟩
   have V:=rJ X;rw[ya] at V;refine wz (dJ bR K) dG (by simp[wI];exact z328 w5 Y V) ?_;rw[ew];simp only[k_exp,thenS_next,ss_nil];refine r3 j [(r.num,r.av)] (W++r.needs.map aG) _ _ g (by rw[i7 (by exact Ne.symm (bM g))];exact dJ bR a1) (lS (dJ bR K)) (lU (a5.trans bR) (by exact bw g)) ⟨?_,?_,?_,?_,.inl (by simp),by simp,λR s p q v=>?_⟩ ?_ ?_
   ·intro e he;rw[yb he];exact⟨r,hr,rt,rfl,rfl⟩
   ·simp only[o2,dH,iU];split<;>lia
   ·intro w a;rcases yd a with a|a
    ·exact A w a
    ·exact X w a
   ·simp only[n2,dH,iU,aQ,eK];split<;>lia
   ·rw[uX (congrArg ln (yb p))] at v;exact .inr ⟨q.toNat,eF _ (yo ⟨q,v,rfl⟩),bb (by have:=O q v;exact z329 this)⟩
   ·simp only[n2,dH,iU,aQ,eK];split<;>lia
   ·simp only[aQ,eK];exact z330 s1 Y
  ·simp only[k_itef,ss_nil,thenS_next];exact r3 j [] W none b g C J f ⟨(λe he=>by cases he),by simp[o2],A,(by simp[n2];exact z331 s2),.inr a4,by simp,(λ_ s p=>by cases p)⟩ (by simp[n2];exact z332 s2) (by exact z333 s1)
 ((refine⟨rfl,?_⟩;simp only[lst,aM,aO,am]))
 simp only[oV];walk_at"wp";refine lk (dJ bR B) E F (by decide) (by exact z334 G) λx P x1=>?_;walk_at"wp";refine⟨by decide,?_⟩
 (simp only[gP,jv,bV])
 refine⟨by exact z335,by exact z336,?_⟩;refine⟨by rw[ya,gj];exact szL (by exact z337),λi l H'=>∃W:List Nat,l=wI W/\W.length=i/\WOK W/\(H++[AObj.dict []])<+:H',⟨[],rfl,rfl,(λw A=>by cases A),af _⟩,?_⟩;intro i l H' S;refine lB (S) λW I hi A f=>?_;clear S;subst I;have N:H<+:H':=bR.trans f;refine⟨trivial,λy hy=>?_,λa3=>?_⟩
 ·have M:i<(1+x%5).toNat:=by have:=(ym hy).1;simpa using this
  rw[aq,g0 (by simpa using M)] at hy;simp only[dT,dR] at hy;subst hy;refine⟨[.int i],rfl,?_⟩;rw[cs_nil];simp only[if_true];walk_at"wp";refine lk (dJ N B) E F (by exact z158) (by exact z338 G M) λy y0 y1=>?_;walk_at"wp";refine⟨by decide,mq (by decide),by decide,?_⟩;refine lk (dJ (N.trans bR) B) E F (by exact z158) (by exact z338 G M) λz z0 z1=>?_;walk_at"wp";refine⟨by decide,mq (by decide),by decide,?_⟩
  (simp only[gP,jv,bV])
  refine n9 dG (by(first|exact ye rfl|simp)) (aT _ (by decide)) (by(first|exact yk _ (by decide)|(simp;lia))) λu hu=>?_;have:∃m:Int,u=.int m/\0<m/\m<=398:=by simp only[cA,cJ,or_false] at hu;rcases hu with rfl|rfl<;>exact⟨_,rfl,by decide,by decide⟩
  refine eT (this) λm I m0 m1=>?_;clear this;subst I;walk_at"wp";refine⟨by exact Ne.symm (dF m0),?_⟩;rw[gP (by exact aj m0)];have b0:=aT (y/6) (show m≠0 by exact Ne.symm (dF m0));have b1:=yk (y/6) m0;generalize y/6%m=q at b0 b1;refine⟨W++[(2+q).toNat],?_,by simp[hi],λw a=>?_,f.trans bR⟩
  ·simp only[wI,aQ,aF,g9];congr 2;rw[bb (by exact z273 b0)]
  ·rcases yd a with a|a
   ·exact A w a
   ·rw[yb a];exact⟨by exact z339 b0,.inl (by exact z340 m1 b1)⟩
 ·have U:i=(1+x%5).toNat:=by simpa using a3
  simp only[k_asg,thenS_next,List.set_cons_zero,List.set_cons_succ];refine r2 H'.length W _ ?_ (dJ bR (dJ f dG)) dG (N.trans bR) A (by exact z341 hi U) (by exact z342 hi U);have:=f.length_le;simp at this;exact j_ this
theorem zg (ps:List (Int×Int)):cleans (ps.map prAV)=true:=by
 induction ps with
 | nil=>rfl
 | cons p ps ih=>exact ih
theorem uJ (r:Rw):clean r.av=true:=by
 cases r with
 | prime n b ps=>exact congrArg (λb=>(b&&true)&&true) (zg ps)
 | _=>rfl
theorem Fk (rs:List Rw):cleans (rs.map Rw.av)=true:=by
 induction rs with
 | nil=>rfl
 | cons r rs ih=>exact je.mpr ⟨uJ r,ih⟩
theorem FU (ps:List (Int×Int)):clean (psT ps)=true:=zg ps
end
section
open PySem
noncomputable def zG:MF:=⟨1,1,
 [.ret (.or2 (.cmp .eq (.idx (.loc 0) (.n 1)) (.cst (.str "first"))) (.cmp .eq (.idx (.loc 0) (.n 1)) (.cst (.str "prime"))))]⟩
noncomputable def xN:MF:=⟨1,1,
 [.ite (.cmp .eq (.idx (.loc 0) (.n 1)) (.cst (.str "prime"))) [.ret (.comp true 2 (.loc 1) .plain [.idx (.idx (.loc 0) (.n 2)) (.n 1)] [])] [],
 .ret (.lst [])]⟩
noncomputable def u5:MF:=⟨2,6,
 [.asg 2 (.n 1),
 .forr true [3,4] .plain [.loc 0] [.forr false [5] .range [.loc 4] [.asg 2 (.bin .mul (.loc 2) (.loc 3)),
   .ite (.cmp .gt (.loc 2) (.loc 1)) [.ret (.cst (.bool false))] []]],
 .ret (.cmp .eq (.loc 2) (.loc 1))]⟩
noncomputable def vy:MF:=⟨4,4,
 [.ite (.or2 (.not (.bi .all [.comp true 2 (.cmp .isin (.loc 4) (.loc 3)) .plain [.loc 2] []])) (.not (.call "comes_to" [.loc 2,.bin .sub (.loc 0) (.n 1)]))) [.ret (.cst (.bool false))] [],
 .ite (.or2 (.cmp .ge (.loc 1) (.loc 0)) (.cmp .ne (.call "powered" [.loc 1,.bin .sub (.loc 0) (.n 1),.loc 0]) (.n 1))) [.ret (.cst (.bool false))] [],
 .ret (.bi .all [.comp true 2 (.cmp .ne (.call "powered" [.loc 1,.bin .fdiv (.bin .sub (.loc 0) (.n 1)) (.loc 4),.loc 0]) (.n 1)) .plain [.loc 2] []])]⟩
noncomputable def uq:MF:=⟨2,6,
 [.asgT [2,3,4] (.loc 0),
 .ite (.cmp .eq (.loc 3) (.cst (.str "first"))) [.ret (.cmp .eq (.loc 2) (.n 2))] [],
 .ite (.cmp .eq (.loc 3) (.cst (.str "prime"))) [.ret (.call "holds_prime" [.loc 2,.idx (.loc 4) (.n 0),.idx (.loc 4) (.n 1),.loc 1])] [],
 .ite (.cmp .eq (.loc 3) (.cst (.str "split"))) [.ret (.cmp .eq (.bin .mul (.idx (.loc 4) (.n 0)) (.idx (.loc 4) (.n 1))) (.loc 2))] [],
 .asg 5 (.idx (.loc 4) (.n 0)),
 .ite (.cmp .eq (.loc 3) (.cst (.str "power"))) [.ret (.and2 (.cmp .lt (.loc 5) (.loc 2)) (.cmp .ne (.call "powered" [.loc 5,.bin .sub (.loc 2) (.n 1),.loc 2]) (.n 1)))] [],
 .ret (.and2 (.cmp2 .lt .lt (.n 1) (.loc 5) (.bin .sub (.loc 2) (.n 1))) (.cmp .eq (.bin .mod (.bin .mul (.loc 5) (.loc 5)) (.loc 2)) (.n 1)))]⟩
noncomputable def vf:MF:=⟨2,10,
 [.asgT [2,3,4] (.loc 0),
 .ite (.cmp .eq (.loc 3) (.cst (.str "first"))) [.ret (.cmp .eq (.loc 2) (.n 2))] [],
 .ite (.cmp .eq (.loc 3) (.cst (.str "split"))) [.ret (.cmp .eq (.bin .mul (.idx (.loc 4) (.n 0)) (.idx (.loc 4) (.n 1))) (.loc 2))] [],
 .asg 5 (.idx (.loc 4) (.n 0)),
 .ite (.cmp .eq (.loc 3) (.cst (.str "root"))) [.ret (.and2 (.cmp2 .lt .lt (.n 1) (.loc 5) (.bin .sub (.loc 2) (.n 1))) (.cmp .eq (.bin .mod (.bin .mul (.loc 5) (.loc 5)) (.loc 2)) (.n 1)))] [],
 .ite (.cmp .eq (.loc 3) (.cst (.str "power"))) [.ret (.and2 (.cmp .lt (.loc 5) (.loc 2)) (.cmp .ne (.call "_law_power" [.loc 5,.bin .sub (.loc 2) (.n 1),.loc 2]) (.n 1)))] [],
 .asg 6 (.n 1),
 .forr true [7,8] .plain [.idx (.loc 4) (.n 1)] [.ite (.cmp .notIn (.loc 7) (.loc 1)) [.ret (.cst (.bool false))] [],
  .forr false [9] .range [.loc 8] [.asg 6 (.bin .mul (.loc 6) (.loc 7))]],
 .ret (.and2 (.cmp .eq (.loc 6) (.bin .sub (.loc 2) (.n 1))) (.and2 (.cmp .lt (.loc 5) (.loc 2)) (.call "_law_round" [.loc 2,.loc 5,.idx (.loc 4) (.n 1)])))]⟩
noncomputable def vk:MF:=⟨1,1,
 [.ret (.or2 (.cmp .eq (.idx (.loc 0) (.n 1)) (.cst (.str "first"))) (.cmp .eq (.idx (.loc 0) (.n 1)) (.cst (.str "prime"))))]⟩
inductive Fc where
 | first
 | prime (b:Int) (ps:List (Int×Int))
 | split (a b:Int)
 | power (b:Int)
 | root (b:Int)
noncomputable def Fc.word:Fc->Str
 | .first => "first"
 | .prime _ _ => "prime"
 | .split _ _ => "split"
 | .power _ => "power"
 | .root _ => "root"
noncomputable def Fc.facts:Fc->List AV
 | .first=>[]
 | .prime b ps=>[.int b,psT ps]
 | .split a b=>[.int a,.int b]
 | .power b=>[.int b]
 | .root b=>[.int b]
noncomputable def roA (n:Int) (f:Fc):AV:=.tup [.int n,.str f.word,.tup f.facts]
def PsK (k:Nat) (ps:List (Int×Int)):Prop:=ps≠[]/\ps.length<=10+k/\∀p∈ps,2<=p.1/\p.1<=1000000+10*k/\1<=p.2/\p.2<=100
def bK (k:Nat) (b:Int):Prop:=1<=b/\b<=10^30
def sK (k:Nat) (b:Int):Prop:=2<=b/\b<=10^16+k
def Fc.ok (k:Nat):Fc->Prop
 | .first=>True
 | .prime b ps=>bK k b/\PsK k ps/\Ris ps
 | .split a b=>sK k a/\sK k b
 | .power b=>bK k b
 | .root b=>bK k b
def RoK (k:Nat) (n:Int) (f:Fc):Prop:=k<=50/\2<=n/\n<=10^30-2000+k/\f.ok k
noncomputable def Fc.needs:Fc->List Int
 | .prime _ ps=>ps.map (·.1)
 | _=>[]
noncomputable def Fc.tells:Fc->Bool
 | .first=>true
 | .prime _ _=>true
 | _=>false
theorem se {f:Fc}(h:(f.word == "first")=true):f=.first:=by cases f<;>first|rfl|(simp only[Fc.word] at h;exact absurd h (by decide))
theorem uy {f:Fc}(h:(f.word == "prime")=true):∃b ps,f=.prime b ps:=by cases f<;>first|exact⟨_,_,rfl⟩|(simp only[Fc.word] at h;exact absurd h (by decide))
theorem sj {f:Fc}(h:(f.word == "split")=true):∃a b,f=.split a b:=by cases f<;>first|exact⟨_,_,rfl⟩|(simp only[Fc.word] at h;exact absurd h (by decide))
theorem qT {k:Nat}{b:Int}(d:k<=50) (h:bK k b):b.natAbs<2^200:=by
 refine c7 (h) λa c=>?_;clear h;have:b.natAbs<10^32:=by exact z343 a c
 exact ah this (by decide)
theorem r7 {k:Nat}{b:Int}(d:k<=50) (h:sK k b):b.natAbs<2^200:=by
 refine c7 (h) λa c=>?_;clear h;have:b.natAbs<10^32:=by exact z344 d a c
 exact ah this (by decide)
theorem uB {ps:List (Int×Int)}(c:k<=50) (h:PsK k ps):∀p∈ps,1<=p.1/\p.1.natAbs<2^200:=λp d=>by
 refine fT (h.2.2 p d) λa b _=>?_;refine⟨by exact aj a,?_⟩;have:p.1.natAbs<10^32:=by exact z345 c a b
 exact ah this (by decide)
def pc (nm:Str) (Φ:Fun):Prop:=∀(k:Nat) (n:Int) (f:Fc) (H:Hp) (Q:PQ),RoK k n f->Q (.ref H.length) (H++[.list (f.needs.map .int)])->Φ nm [roA n f] H Q
theorem v7 {n:Int}{f:Fc}{Q:PQ}(d:RoK k n f) (h:Q (.ref H.length) (H++[.list (f.needs.map .int)])):wpF Φ oW [roA n f] H Q:=by
 unfold roA
 ((refine⟨rfl,?_⟩;simp only[lst,aM,aO,am]))
 simp only[oW];walk_at"wp";refine⟨by simp[ag],?_⟩;refine gC (λc=>?_) (λc=>?_)
 ·refine kA (uy c) λb ps a=>?_;subst a;simp only[Fc.facts,psT];walk_at"wp";refine⟨by simp[ag],by simp[ag],?_⟩;have g:ps.length<=10+k:=d.2.2.2.2.1.2.1;have e:=d.1;refine rf fstA (by simp;exact szL (by exact z346 g e)) trivial (λy i=>?_) ?_
  ·refine aK (yh i) λp l a=>?_;subst a;refine⟨[.int p.1,.int p.2],rfl,λj q=>?_⟩;walk_at"wp";exact q
  ·walk_at"wp";have:(ps.map prAV).map fstA=(Fc.prime b ps).needs.map .int:=(cE ..).trans ((rfl:_=List.map (AV.int∘λx:Int×Int=>x.1) ps).trans (cE ..).symm);rw[this];exact h
 ·walk_at"wp";refine⟨by decide,?_⟩;have:f.needs=[]:=by cases f<;>first|rfl|(simp only[Fc.word] at c;exact absurd c (by decide))
  rw[this] at h;exact h
theorem Ad {n:Int}{f:Fc}{Q:PQ}(a:RoK k n f) (h:Q (.ref H.length) (H++[.list (f.needs.map .int)])):wpF Φ xN [roA n f] H Q:=v7 a h
def pK (nm:Str) (Φ:Fun):Prop:=∀(n:Int) (f:Fc) (H:Hp) (Q:PQ),Q (.bool f.tells) H->Φ nm [roA n f] H Q
theorem tells {n:Int}{f:Fc}{Q:PQ}(h:Q (.bool f.tells) H):wpF Φ vk [roA n f] H Q:=by
 unfold roA
 ((refine⟨rfl,?_⟩;simp only[lst,aM,aO,am]))
 simp only[vk];walk_at"wp";refine⟨by simp[ag],?_⟩;refine gC (λa=>?_) (λa=>?_)
 ·rw[se a] at h;walk_at"wp";exact h
 ·walk_at"wp";refine⟨by simp[ag],?_⟩;have:f.tells=(f.word == "prime"):=by cases f<;>first|rfl|exact absurd a (by decide)
  rw[this] at h;exact h
theorem Cg {n:Int}{f:Fc}{Q:PQ}(h:Q (.bool f.tells) H):wpF Φ zG [roA n f] H Q:=tells h
end
section
open PySem
theorem r5 {y:AV}(h:((bG m).map λ(k:Nat)=>AV.int k)[i]?=some y):y=.int i/\i<m:=by
 have a:i<m:=by have:=(ym h).1;simpa using this
 rw[aq,g0 a] at h;simp only[dT,dR] at h;exact⟨h.symm,a⟩
def wf (Φ:Fun):Prop:=∀(k:Nat) (ps:List (Int×Int)) (n:Int) (H:Hp) (Q:PQ),k<=50->PsK k ps->1<=n->n<=10^32->Q (.bool (decide (gA ps=n))) H->Φ "comes_to" [psT ps,.int n] H Q
theorem comes_to {Φ:Fun}{k:Nat}{ps:List (Int×Int)}{n:Int}{H:Hp}{Q:PQ}(B:k<=50) (g:PsK k ps) (I:1<=n) (n2:n<=10^32) (h:Q (.bool (decide (gA ps=n))) H):wpF Φ u5 [psT ps,.int n] H Q:=by
 have c:∀p∈ps,1<=p.1:=λp F=>(uB B g p F).1;unfold psT
 ((refine⟨rfl,?_⟩;simp only[lst,aM,aO,am]))
 simp only[u5];walk_at"wp";refine lC (λi loc H'=>∃(C D d:Option AV),H'=H/\gA (ps.take i)<=n/\loc=[some (.tup (ps.map prAV)),some (.int n),some (.int (gA (ps.take i))),C,D,d]) ⟨none,none,none,rfl,by simp[gA];exact z347 I,rfl⟩ ?_;intro i loc H' a;refine kM (a) λC D d r w t=>?_;clear a;subst r;subst t;refine⟨trivial,λy l=>?_,λhi=>?_⟩
 ·rw[aq] at l;refine aK (yf l) λp b q=>?_;subst q;refine jA (g.2.2 p (yc b)) λJ K L M=>?_;have A:1<=gA (ps.take i):=tc λx G=>c x (bq G);refine⟨[.int p.1,.int p.2],rfl,?_⟩;walk_at"wp";refine⟨by exact z348 L,by exact z349 M,?_⟩;refine lC (λj loc z=>∃(d:Option AV),z=H'/\j<=p.2.toNat/\gA (ps.take i)*p.1^j<=n/\loc=[some (.tup (ps.map prAV)),some (.int n),some (.int (gA (ps.take i)*p.1^j)),some (.int p.1),some (.int p.2),d]) ⟨d,rfl,cX _,by simpa using w,by simp⟩ ?_;intro j loc z a;refine lB (a) λd o O v s=>?_;clear a;subst o;subst s;refine⟨trivial,λy l=>?_,λhi=>?_⟩
  ·refine c7 (r5 l) λm f=>?_;subst m;refine⟨[.int j],rfl,?_⟩;have N:1<=gA (ps.take i)*p.1^j:=by have:=fc A (pow_pos' (c p (yc b)) j) (by decide) (by exact aj A);simpa using this
   have E:gA (ps.take i)*p.1^j*p.1=gA (ps.take i)*p.1^(j+1):=by rw[dE,jL]
   walk_at"wp";refine⟨zp (ah (show p.1.natAbs<10000000 by exact z350 B J K) (by decide)),?_⟩;rw[E];refine fR (λu=>?_) (λu=>?_)
   ·walk_at"wp";have:=xE c b (show j+1<=p.2.toNat by exact dW f);rw[show decide (gA ps=n)=false from decide_eq_false (by exact z351 u this)] at h;exact h
   ·walk_at"wp";exact jG ⟨_,rfl,by exact dW f,by exact ie.mp u,rfl⟩
  ·have e:j=p.2.toNat:=by simpa using hi
   walk_at"wp";refine jG ⟨some (.int p.1),some (.int p.2),d,rfl,?_,?_⟩
   ·rw[uZ b,<-e];exact v
   ·rw[uZ b,<-e]
 ·walk_at"wp";have:ps.take i=ps:=be (by rw[hi];simp);rw[this];exact h
theorem Fv {l:List Int}:dats H (l.map .int)=some (l.map .int):=by
 unfold dats
 induction l with
 | nil=>rfl
 | cons x r ih=>simp only[aF,datRs,datR,ih,fH,dT]
theorem D2 {l:List Int}:((l.map mQ).any λz=>bu z (.int q))=l.contains q:=by
 induction l with
 | nil=>rfl
 | cons x r ih =>
  simp only[aF,List.any_cons,ih,bu,List.contains_cons];rw[show(x == q)=(q == x) by rw[gY,beq_iff_eq,beq_iff_eq];exact eq_comm]
theorem qo {l:List Int}{K:Bool->Prop}(a:H[j]?=some (.list (l.map .int))) (h:K (l.contains q)):wpIn (.int q) (.ref j) H K:=by unfold wpIn;simp only[a];exact⟨.int q,_,rfl,Fv,by simp[bS],by rw[D2];exact h⟩
noncomputable def Fc.holds (n:Int) (pr:List Int):Fc->Bool
 | .first=>decide (n=2)
 | .prime b ps=>(ps.all λp=>pr.contains p.1)&&(decide (gA ps=n-1)&&(decide (b<n)&&jV n b ps))
 | .split a b=>decide (a*b=n)
 | .power b=>decide (b<n)&&!decide (pw b (n-1) n=1)
 | .root b=>(decide (1<b)&&decide (b<n-1))&&decide (b*b%n=1)
def SHp (Φ:Fun):Prop:=∀(k j:Nat) (n b:Int) (ps:List (Int×Int)) (pr:List Int) (H:Hp) (Q:PQ),H[j]?=some (.list (pr.map .int))->RoK k n (.prime b ps)->(∀H',H<+:H'->Q (.bool ((Fc.prime b ps).holds n pr)) H')->Φ "holds_prime" [.int n,.int b,psT ps,.ref j] H Q
noncomputable def inA (pr:List Int) (y:AV):AV:=match y with|.tup (.int q::_)=>.bool (pr.contains q)|_=>.none
noncomputable def pwA (b n:Int) (y:AV):AV:=match y with|.tup (.int q::_)=>.bool (!decide (pw b ((n-1)/q) n=1))|_=>.none
theorem holds_prime {Φ:Fun}(E:wf Φ) (B:SPow Φ){k j:Nat}{n b:Int}{ps:List (Int×Int)}{a:List Int}{H:Hp}{Q:PQ}(F:H[j]?=some (.list (a.map .int))) (D:RoK k n (.prime b ps)) (h:∀H',H<+:H'->Q (.bool ((Fc.prime b ps).holds n a)) H'):wpF Φ vy [.int n,.int b,psT ps,.ref j] H Q:=by
 refine m7 (D) λm w I o d _=>?_;clear D;refine c7 (o) λA J=>?_;clear o;have t:n<=10^32:=by exact z352 m I
 have C:ps.length<=10+k:=d.2.1;have f:∀(g:Int×Int->Bool) (G:AV->AV),(∀p,G (prAV p)=.bool (g p))->∀(H':Hp),(H'++[AObj.list ((ps.map prAV).map G)])[H'.length]?=some (.list ((ps.map g).map AV.bool)):=λg G e H'=>by rw[dG,cE,cE];congr 2;exact cF λp _=>e p
 ((refine⟨rfl,?_⟩;simp only[lst,aM,aO,am]))
 simp only[vy,psT];walk_at"wp";refine rf (inA a) (by simp;exact szL (by exact z353 m C)) trivial (λy v=>?_) ?_
 ·refine aK (yh v) λp u i=>?_;subst i;refine⟨[.int p.1,.int p.2],rfl,λz q=>?_⟩;walk_at"wp";exact qo (K:=λb=>z (.bool b) H) F q
 walk_at"wp";refine(vW (f (λp=>a.contains p.1) _ (λp=>rfl) H)).mpr ?_;rw[List.all_map];walk_at"wp";refine gC (K:=λb=>kOr Φ _ _ _ (.bool !b) _) (λc=>?_) (λc=>?_)
 ·simp only[bC];walk_at"wp";refine E k ps (n-1) _ _ m d (by exact nN w) (by exact z354 t) ?_;walk_at"wp";have c:(ps.all λp=>a.contains p.1)=true:=c;refine oY (K:=λb=>oj Φ _ _ _ _ _ b) (λr=>?_) (λr=>?_)
  ·walk_at"wp";have e:(Fc.prime b ps).holds n a=false:=by simp only[Fc.holds,c,decide_eq_false r,dB,cj]
   rw[e] at h;exact h _ bR
  walk_at"wp";refine fR (λl=>?_) (λl=>?_)
  ·walk_at"wp";have e:(Fc.prime b ps).holds n a=false:=by simp only[Fc.holds,c,show decide (b<n)=false from decide_eq_false (by exact Int.not_lt_of_ge l),cj,jd]
   rw[e] at h;exact h _ bR
  walk_at"wp";refine B b (n-1) n _ _ (by exact z355 A l) (by exact z356 A l) t ?_;walk_at"wp";refine oY (λs=>?_) (λs=>?_)
  ·walk_at"wp";have e:(Fc.prime b ps).holds n a=false:=by simp only[Fc.holds,jV,decide_eq_false s,cj,jd]
   rw[e] at h;exact h _ bR
  walk_at"wp";refine rf (pwA b n) (by simp;exact szL (by exact z353 m C)) trivial (λy v=>?_) ?_
  ·refine aK (yh v) λp u i=>?_;subst i;refine fT (d.2.2 p u) λx L _=>?_;refine⟨[.int p.1,.int p.2],rfl,λz q=>?_⟩;walk_at"wp";refine⟨by exact z229 x,qZ (uB m d p u).2,?_⟩;simp only[jv (show(0:Int)<=p.1 by exact z231 x)];refine B b ((n-1)/p.1) n _ _ (i3 (by exact z149 w) (by exact z231 x)) (by exact aj w) t ?_;walk_at"wp";exact q
  walk_at"wp";refine(vW (f (λp=>!decide (pw b ((n-1)/p.1) n=1)) _ (λp=>rfl) _)).mpr ?_;rw[List.all_map];walk_at"wp";have e:(Fc.prime b ps).holds n a=(ps.all λp=>!decide (pw b ((n-1)/p.1) n=1)):=by simp only[Fc.holds,jV,c,decide_eq_true r,show decide (b<n)=true from decide_eq_true (by exact Int.lt_of_not_ge l),decide_eq_true s,dB]
  rw[e] at h;exact h _ (bR.trans bR)
 ·simp only[bT];walk_at"wp";have c:(ps.all λp=>a.contains p.1)=false:=c;have e:(Fc.prime b ps).holds n a=false:=by simp only[Fc.holds,c,cj]
  rw[e] at h;exact h _ bR
theorem wb {f:Fc}(d:(f.word == "first")=false) (a:(f.word == "prime")=false) (c:(f.word == "split")=false):(∃b,f=.power b)\/∃b,f=.root b:=by
 cases f with
 | power b=>exact .inl ⟨b,rfl⟩
 | root b=>exact .inr ⟨b,rfl⟩
 | first=>exact absurd d (by decide)
 | prime=>simp only[Fc.word] at a;exact absurd a (by decide)
 | split=>simp only[Fc.word] at c;exact absurd c (by decide)
theorem xU {f:Fc}(c:(f.word == "first")=false) (a:(f.word == "split")=false):(∃b ps,f=.prime b ps)\/(∃b,f=.power b)\/∃b,f=.root b:=by
 cases f with
 | prime b ps=>exact .inl ⟨b,ps,rfl⟩
 | power b=>exact .inr (.inl ⟨b,rfl⟩)
 | root b=>exact .inr (.inr ⟨b,rfl⟩)
 | first=>exact absurd c (by decide)
 | split=>simp only[Fc.word] at a;exact absurd a (by decide)
def rU (nm:Str) (Φ:Fun):Prop:=∀(k j:Nat) (n:Int) (f:Fc) (pr:List Int) (H:Hp) (Q:PQ),H[j]?=some (.list (pr.map .int))->RoK k n f->(∀H',H<+:H'->Q (.bool (f.holds n pr)) H')->Φ nm [roA n f,.ref j] H Q
theorem holds (v:SHp Φ) (w:SPow Φ){n:Int}{f:Fc}{r:List Int}{Q:PQ}(x:H[j]?=some (.list (r.map .int))) (s:RoK k n f) (h:∀H',H<+:H'->Q (.bool (f.holds n r)) H'):wpF Φ uq [roA n f,.ref j] H Q:=by
 refine jA (id s) λl u z q=>?_;have y:n<=10^32:=by exact z352 l z
 have c:=h H (af _);unfold roA
 ((refine⟨rfl,?_⟩;simp only[lst,aM,aO,am]))
 simp only[uq];walk_at"wp";refine⟨by simp[ag],?_⟩;refine gC (λm=>?_) (λm=>?_)
 ·obtain rfl:=se m;walk_at"wp";exact c
 simp -implicitDefEqProofs only[↓k_itef,↓ss_nil,↓thenS_next,↓ss_cons,↓s_ite,↓e_cmp,↓e_locS,↓e_loc0,↓k_cmp1,↓e_cst,↓k_cmp2,↓c_eqS,↓k_ite];refine gC (λo=>?_) (λo=>?_)
 ·refine kA (uy o) λb ps e=>?_;subst e;simp only[Fc.facts];walk_at"wp";refine⟨by simp[ag],by simp[ag],?_⟩;exact v k j n b ps r H _ x s h
 walk_at"wp";refine gC (λp=>?_) (λp=>?_)
 ·refine kA (sj p) λa b e=>?_;subst e;simp only[Fc.facts];walk_at"wp";refine⟨by simp[ag],by simp[ag],?_⟩;refine⟨oS (r7 l q.1) (r7 l q.2),?_⟩;walk_at"wp";exact c
 walk_at"wp";rcases wb m o p with⟨b,rfl⟩|⟨b,rfl⟩
 ·simp only[Fc.facts,Fc.word];walk_at"wp";refine⟨by simp[ag],?_⟩;refine gC (λg=>?_) (λg=>absurd g (by decide));walk_at"wp";refine fR (λd=>?_) (λd=>?_)
  ·walk_at"wp";refine w b (n-1) n _ _ (by exact z149 u) (by exact aj u) y ?_;walk_at"wp";simp only[Fc.holds,decide_eq_true d,dB] at c;exact c
  ·walk_at"wp";simp only[Fc.holds,decide_eq_false d,cj] at c;exact c
 ·simp only[Fc.facts,Fc.word];walk_at"wp";refine⟨by simp[ag],?_⟩;refine gC (λg=>absurd g (by decide)) (λg=>?_);have t:=qT l q;walk_at"wp";refine fR (λd=>?_) (λd=>?_)
  ·walk_at"wp";refine fR (λi=>?_) (λi=>?_)
   ·walk_at"wp";refine⟨oS t t,by exact z357 d i,?_⟩;simp only[gP (show(0:Int)<=n by exact z358 d i)];simp only[Fc.holds,decide_eq_true d,decide_eq_true i,dB] at c;exact c
   ·walk_at"wp";simp only[Fc.holds,decide_eq_false i,jd,cj] at c;exact c
  ·walk_at"wp";simp only[Fc.holds,decide_eq_false d,cj] at c;exact c
theorem FI {Φ:Fun}(R:tS Φ) (S:p_ Φ){k j:Nat}{n:Int}{f:Fc}{x:List Int}{H:Hp}{Q:PQ}(X:H[j]?=some (.list (x.map .int))) (Y:RoK k n f) (h:Q (.bool (f.holds n x)) H):wpF Φ vf [roA n f,.ref j] H Q:=by
 refine jA (id Y) λo L Z w=>?_;have I:n<=10^32:=by exact z352 o Z
 unfold roA
 ((refine⟨rfl,?_⟩;simp only[lst,aM,aO,am]))
 simp only[vf];walk_at"wp";refine⟨by simp[ag],?_⟩;refine gC (λE=>?_) (λE=>?_)
 ·obtain rfl:=se E;walk_at"wp";exact h
 simp -implicitDefEqProofs only[↓k_itef,↓ss_nil,↓thenS_next,↓ss_cons,↓s_ite,↓e_cmp,↓e_locS,↓e_loc0,↓k_cmp1,↓e_cst,↓k_cmp2,↓c_eqS,↓k_ite];refine gC (λF=>?_) (λF=>?_)
 ·refine kA (sj F) λa b q=>?_;subst q;simp only[Fc.facts];walk_at"wp";refine⟨by simp[ag],by simp[ag],?_⟩;refine⟨oS (r7 o w.1) (r7 o w.2),?_⟩;walk_at"wp";exact h
 walk_at"wp";rcases xU E F with⟨b,ps,rfl⟩|⟨b,rfl⟩|⟨b,rfl⟩
 ·simp only[Fc.facts,Fc.word];simp -implicitDefEqProofs only[↓i_tup0,↓k_asg,↓thenS_next,↓ss_cons,↓s_ite,↓e_cmp,setS,set0,↓e_locS,↓e_loc0,↓k_cmp1,↓e_cst,↓k_cmp2,↓c_eqS,↓k_ite]
  repeat (with_reducible refine And.intro ?sd ?_;(case sd=>simp[ag]))
  refine gC (λd=>absurd d (by decide)) (λ_=>?_);walk_at"wp";refine gC (λd=>absurd d (by decide)) (λ_=>?_);walk_at"wp";refine⟨su2,?_⟩;have z:PsK k ps:=w.2.1;have V:=qT o w.1;have W:(Fc.prime b ps).holds n x=((ps.all λp=>x.contains p.1)&&(decide (gA ps=n-1)&&(decide (b<n)&&jV n b ps))):=rfl;rw[W] at h;simp only[psT];walk_at"wp";refine lC (λi loc H'=>∃(O P v:Option AV),H'=H/\(ps.all λp=>x.contains p.1)=((ps.drop i).all λp=>x.contains p.1)/\loc=[some (.tup [.int n,.str "prime",.tup [.int b,.tup (ps.map prAV)]]),some (.ref j),some (.int n),some (.str "prime"),some (.tup [.int b,.tup (ps.map prAV)]),some (.int b),some (.int (gA (ps.take i))),O,P,v]) ⟨none,none,none,rfl,by simp,rfl⟩ ?_;intro i loc H' g;refine kM (g) λO P v r s D=>?_;clear g;subst r;subst D;refine⟨trivial,λy A=>?_,λhi=>?_⟩
  ·rw[aq] at A;refine aK (yf A) λp u q=>?_;subst q;refine cG (ym u) λt e=>?_;have J:=yc u;refine jA (z.2.2 p J) λq2 q3 t1 t2=>?_;rw[bp t,e,lO] at s;refine⟨[.int p.1,.int p.2],rfl,?_⟩;walk_at"wp";refine qo (K:=λb=>kIte Φ _ _ _ _ (.bool !b) _) X ?_;refine gC (K:=λb=>kIte Φ _ _ _ _ (.bool !b) _) (λc=>?_) (λc=>?_)
   ·simp only[bC];walk_at"wp";rw[c,dB] at s;refine⟨by exact z348 t1,by exact z349 t2,?_⟩;refine lC (λm loc M=>∃(v:Option AV),M=H'/\m<=p.2.toNat/\loc=[some (.tup [.int n,.str "prime",.tup [.int b,.tup (ps.map prAV)]]),some (.ref j),some (.int n),some (.str "prime"),some (.tup [.int b,.tup (ps.map prAV)]),some (.int b),some (.int (gA (ps.take i)*p.1^m)),some (.int p.1),some (.int p.2),v]) ⟨v,rfl,cX _,by simp⟩ ?_;intro m loc M g;refine eT (g) λv C hm r=>?_;clear g;subst C;subst r;refine⟨trivial,λy A=>?_,λhi=>?_⟩
    ·refine c7 (r5 A) λB t=>?_;subst B;refine⟨[.int m],rfl,?_⟩;walk_at"wp";refine⟨zp (ah (show p.1.natAbs<10000000 by exact z350 o q2 q3) (by decide)),?_⟩;exact jG ⟨_,rfl,by exact dW t,by rw[jL,<-dE]⟩
    ·have G:m=p.2.toNat:=by simpa using hi
     walk_at"wp";exact jG ⟨some (.int p.1),some (.int p.2),v,rfl,s,by rw[uZ u,<-G]⟩
   ·simp only[bT];walk_at"wp";rw[c,cj] at s;rw[s,cj] at h;exact h
  ·walk_at"wp";have T:ps.take i=ps:=be (by rw[hi];simp);have U:ps.drop i=[]:=d7 (by rw[hi];simp);rw[U] at s;rw[s,List.all_nil,dB] at h;rw[T];refine fR (λc=>?_) (λc=>?_)
   ·walk_at"wp";rw[decide_eq_true c,dB] at h;refine fR (λl=>?_) (λl=>?_)
    ·walk_at"wp";rw[decide_eq_true l,dB] at h;refine⟨su2,?_⟩;refine R n b ps _ _ L I V (uB o z) ?_;walk_at"wp";exact h
    ·walk_at"wp";rw[decide_eq_false l,cj] at h;exact h
   ·walk_at"wp";rw[decide_eq_false c,cj] at h;exact h
 ·simp only[Fc.facts,Fc.word];simp -implicitDefEqProofs only[↓i_tup0,↓k_asg,↓thenS_next,↓ss_cons,↓s_ite,↓e_cmp,setS,set0,↓e_locS,↓e_loc0,↓k_cmp1,↓e_cst,↓k_cmp2,↓c_eqS,↓k_ite]
  repeat (with_reducible refine And.intro ?sd ?_;(case sd=>simp[ag]))
  refine gC (λd=>absurd d (by decide)) (λ_=>?_);walk_at"wp";refine gC (λd=>?_) (λd=>absurd d (by decide));walk_at"wp";refine fR (λc=>?_) (λc=>?_)
  ·walk_at"wp";refine S b (n-1) n _ _ (qT o w) (by exact z149 L) (by exact nJ I) (by exact aj L) I ?_;walk_at"wp";simp only[Fc.holds,decide_eq_true c,dB] at h;exact h
  ·walk_at"wp";simp only[Fc.holds,decide_eq_false c,cj] at h;exact h
 ·simp only[Fc.facts,Fc.word];walk_at"wp";refine⟨by simp[ag],?_⟩;refine gC (λd=>?_) (λd=>absurd d (by decide));have N:=qT o w;walk_at"wp";refine fR (λc=>?_) (λc=>?_)
  ·walk_at"wp";refine fR (λl=>?_) (λl=>?_)
   ·walk_at"wp";refine⟨oS N N,by exact z357 c l,?_⟩;simp only[gP (show(0:Int)<=n by exact z358 c l)];simp only[Fc.holds,decide_eq_true c,decide_eq_true l,dB] at h;exact h
   ·walk_at"wp";simp only[Fc.holds,decide_eq_false l,jd,cj] at h;exact h
  ·walk_at"wp";simp only[Fc.holds,decide_eq_false c,cj] at h;exact h
end
section
open PySem
noncomputable def qz:MF:=⟨3,9,
 [.asgT [3,4,5] (.loc 0),
 .ite (.cmp .eq (.loc 4) (.cst (.str "split"))) [.ret (.tup [.loc 3,.loc 4,.tup [.bin .sub (.bin .add (.idx (.loc 5) (.n 0)) (.n 1)) (.bin .mod (.loc 1) (.n 2)),.bin .add (.idx (.loc 5) (.n 1)) (.bin .mod (.loc 1) (.n 2))]])] [],
 .ite (.cmp .eq (.loc 4) (.cst (.str "first"))) [.ret (.tup [.loc 3,.cst (.str "power"),.tup [.bin .add (.n 1) (.bin .mod (.loc 2) (.n 3))]])] [],
 .asg 6 (.idx (.loc 5) (.n 0)),
 .ite (.cmp .lt (.loc 1) (.n 4)) [.asg 6 (.idx (.lst [.bin .sub (.loc 3) (.n 1),.n 1,.loc 3,.bi .min [.bin .add (.loc 6) (.loc 3),.bin .pow (.n 10) (.n 30)]]) (.loc 1)),
  .ret (.tup [.loc 3,.loc 4,.bin .add (.tup [.loc 6]) (.slcT (.loc 5) [.n 1] [])])] [],
 .ite (.or2 (.cmp .eq (.loc 4) (.cst (.str "power"))) (.cmp .eq (.loc 4) (.cst (.str "root")))) [.ret (.tup [.loc 3,.idx (.lst [.cst (.str "root"),.cst (.str "power")]) (.bi .int [.cmp .eq (.loc 4) (.cst (.str "root"))]),.loc 5])] [],
 .asg 7 (.bi .list [.idx (.loc 5) (.n 1)]),
 .asg 8 (.bin .mod (.loc 2) (.bi .len [.loc 7])),
 .ite (.cmp .eq (.loc 1) (.n 4)) [.sto (.loc 7) (.loc 8) (.tup [.idx (.idx (.loc 7) (.loc 8)) (.n 0),.bin .add (.bin .mod (.idx (.idx (.loc 7) (.loc 8)) (.n 1)) (.n 100)) (.n 1)])] [.ite (.and2 (.cmp .eq (.loc 1) (.n 5)) (.cmp .gt (.bi .len [.loc 7]) (.n 1))) [.asg 7 (.bin .add (.slc (.loc 7) [] [.loc 8]) (.slc (.loc 7) [.bin .add (.loc 8) (.n 1)] []))] [.ite (.cmp .eq (.loc 1) (.n 6)) [.asg 7 (.bin .add (.loc 7) (.lst [.tup [.bin .add (.bin .add (.idx (.idx (.loc 7) (.neg (.n 1))) (.n 0)) (.n 1)) (.bin .mod (.loc 2) (.n 9)),.n 1]]))] [.ite (.cmp .eq (.bin .mod (.loc 2) (.n 3)) (.n 0)) [.ret (.tup [.loc 3,.cst (.str "power"),.tup [.loc 6]])] [.asg 6 (.call "_law_power" [.loc 6,.idx (.idx (.loc 7) (.loc 8)) (.n 0),.loc 3])]]]],
 .ret (.tup [.loc 3,.loc 4,.tup [.bi .max [.n 1,.loc 6],.bi .tuple [.loc 7]]])]⟩
noncomputable def pD:MF:=⟨3,6,
 [.asg 3 (.bin .mod (.loc 1) (.bi .len [.loc 0])),
 .asg 4 (.bin .mod (.bin .fdiv (.loc 1) (.n 64)) (.n 10)),
 .asg 5 (.idx (.loc 0) (.loc 3)),
 .ite (.and2 (.cmp .eq (.loc 4) (.n 8)) (.cmp .gt (.bi .len [.loc 0]) (.n 1))) [.ret (.bin .add (.slc (.loc 0) [] [.loc 3]) (.slc (.loc 0) [.bin .add (.loc 3) (.n 1)] []))] [],
 .ite (.and2 (.cmp .eq (.loc 4) (.n 9)) (.or2 (.cmp .eq (.loc 3) (.bin .sub (.bi .len [.loc 0]) (.n 1))) (.cmp .gt (.idx (.idx (.loc 0) (.bin .add (.loc 3) (.n 1))) (.n 0)) (.bin .add (.idx (.loc 5) (.n 0)) (.n 1))))) [.ret (.bin .add (.bin .add (.slc (.loc 0) [] [.loc 3]) (.lst [.tup [.bin .add (.idx (.loc 5) (.n 0)) (.n 1),.idx (.loc 5) (.n 1),.idx (.loc 5) (.n 2)]])) (.slc (.loc 0) [.bin .add (.loc 3) (.n 1)] []))] [],
 .ret (.bin .add (.bin .add (.slc (.loc 0) [] [.loc 3]) (.lst [.call "_law_other_facts" [.loc 5,.bin .mod (.loc 4) (.n 8),.loc 2]])) (.slc (.loc 0) [.bin .add (.loc 3) (.n 1)] []))]⟩
theorem Fc.up {f:Fc}(h:f.ok k):f.ok (k+1):=by
 have c:∀{b:Int},sK k b->sK (k+1) b:=λh=>⟨h.1,by have:=h.2;exact z359 this⟩;cases f with
 | first=>trivial
 | prime b ps=>exact⟨h.1,⟨h.2.1.1,by have:=h.2.1.2.1;exact dY this,λp d=>by have:=h.2.1.2.2 p d;exact z360 this⟩,h.2.2⟩
 | split a b=>exact⟨c h.1,c h.2⟩
 | power b=>exact h
 | root b=>exact h
theorem RoK.up {n:Int}{f:Fc}(h:RoK k n f) (a:k<50):RoK (k+1) n f:=⟨by exact dW a,h.2.1,by have:=h.2.2.1;exact z361 this,f.up h.2.2.2⟩
theorem De {Q:PQ}{a b c d:AV}{k:Int}(h:H[i]?=some (.list [a,b,c,d])) (f:0<=k) (g:k<4) (j:Q a H) (l:Q b H) (m:Q c H) (n:Q d H):jT (.ref i) (.int k) H Q :=
 n9 h (by simp) f g λz e=>by simp only[cA,cJ,or_false] at e;rcases e with rfl|rfl|rfl|rfl<;>assumption
theorem oM {K:List AV->Prop}(h:H[j]?=some (.list l)) (k:K l):kE (seqL H (.ref j)) K:=by rw[show seqL H (.ref j)=some l by simp[seqL,h]];exact k
theorem pd {Q:PQ}{m:List AV}(a:H[i]?=some (.list l)) (b:H[j]?=some (.list m)) (c:l.length+m.length<=1000) (q:Q (.ref H.length) (H++[.list (l++m)])):n7 .add (.ref i) (.ref j) H Q:=by rw[wk a b];exact⟨szL c,q⟩
theorem pi {Q:PQ}(h:H[i]?=some (.list l)) (a:l.length<=1000) (q:Q (.tup l) H):wpBi .tuple [.ref i] H Q:=by rw[wW h];exact⟨szL a,q⟩
theorem u4 {α:Type}{l:List α}{a b:Option Int}{x:α}(h:x∈gm l a b):x∈l:=by unfold gm at h;exact bP (bq h)
theorem zl {α:Type}{l:List α}{a b:Option Int}:(gm l a b).length<=l.length:=by unfold gm;rw[b9,cK];exact aa (eA _ _) (dg _ _)
theorem lT {α β:Type}{g:α->β}{l:List α}{a b:Option Int}:gm (l.map g) a b=(gm l a b).map g:=by unfold gm;simp
theorem lsl1 {x:AV}{r:List AV}:gm (x::r) (some 1) none=r:=by unfold gm kQ;simp
theorem B3 {Q:PQ}(h:H[i]?=some (.list l)) (b:l.length<=1000) (a:1<=l.length) (q:∀z,l.getLast?=some z->Q z H):jT (.ref i) (.int (-1)) H Q:=by rw[rV h];refine⟨by exact z123 b,l.length-1,l[l.length-1]'(by exact dS a),?_,ak _,q _ (by rw[List.getLast?_eq_getElem?];exact ak _)⟩;unfold place;rw[if_neg (by decide)];simp;exact z362 a
theorem DU {ps:List (Int×Int)}:Ris ps↔(ps.map (·.1)).Pairwise (·<·):=jX.symm
theorem Do {ps:List (Int×Int)}{a:Nat}{p:Int×Int}{t:Int}(h:Ris ps) (b:ps[a]?=some p):Ris (ps.set a (p.1,t)):=by
 rw[DU] at h ⊢;have:(ps.set a (p.1,t)).map (·.1)=ps.map (·.1):=by
  refine List.ext_getElem? λi=>?_;rw[aq,aq,j5];split
  ·rename_i e;subst e;rw[b];simp[(ym b).1]
  ·rfl
 rw[this];exact h
theorem Ff {ps:List (Int×Int)}{r:Int×Int}(h:Ris ps) (c:ps.getLast?=some r):∀x∈ps,x.1<=r.1:=by
 refine cG (List.getLast?_eq_some_iff.mp c) λl b=>?_;subst b;intro x a;rcases yd a with a|a
 ·have:=(cV.mp h).2.2 x a r (by simp);exact aj this
 ·rw[yb a];exact cS _
theorem DT {ps:List (Int×Int)}{t:Int}(h:Ris ps) (a:∀x∈ps,x.1<q):Ris (ps++[(q,t)]) :=
 cV.mpr ⟨h,by simp,λx b y c=>by rw[yb c];exact a x b⟩
theorem tY {α:Type}{l:List α}:gm l none (some a)=l.take (min a.toNat l.length):=by unfold gm kQ;simp
theorem qw {α:Type}{l:List α}:gm l (some a) none=l.drop (min a.toNat l.length):=by show(l.drop (min a.toNat l.length)).take (l.length-min a.toNat l.length)=_;exact be (by rw[cK];exact az _)
theorem yV {α:Type}{l:List α}(d:0<=a) (e:a<l.length):(gm l none (some a)).length+(gm l (some (a+1)) none).length+1=l.length:=by
 refine cG (aV d) λm c=>?_;subst c;have b:m+1<=l.length:=by exact br.mp e
 rw[tY,qw,show((m:Int)+1).toNat=m+1 from rfl,cx,bF (bw b),bF b,b9,cK,bF (bw b)];exact z363 b
theorem Bn {α:Type}{l:List α}(h:l.length<=1):l=[]\/∃x,l=[x]:=by
 cases l with
 | nil=>exact .inl rfl
 | cons x r =>
  cases r with
  | nil=>exact .inr ⟨x,rfl⟩
  | cons=>simp at h
theorem EC {a b n:Nat}(h:a<=b):min a n<=min b n:=jQ.mpr ⟨aa (d4 _ _) h,eA _ _⟩
theorem EB {α:Type}{l:List α}(h:a<=b):(gm l none (some a)++gm l (some b) none).Sublist l:=by
 rw[tY,qw]
 conv=>rhs;rw[<-bU (min a.toNat l.length) l]
 exact List.Sublist.append (List.Sublist.refl _) (List.drop_sublist_drop_left _ (EC (Int.toNat_le_toNat h)))
theorem xu {α:Type}{l:List α}:(gm l none (some a)++gm l (some (a+1)) none).Sublist l:=EB (aj (Int.lt_succ a))
theorem Fe {ps:List (Int×Int)}(h:Ris ps):Ris (gm ps none (some a)++gm ps (some (a+1)) none):=eG xu h
theorem tP {α:Type}{l:List α}{r:α}(c:0<=a) (h:l[a.toNat]?=some r):gm l none (some a)++r::gm l (some (a+1)) none=l:=by
 refine cG (ym h) λb e=>?_;rw[tY,qw,bF (aX b),show(a+1).toNat=a.toNat+1 from Int.toNat_add c (by decide),bF b]
 conv=>rhs;rw[<-bU a.toNat l,bp b,e]
theorem Dm {a post:List Int}{x y:Int}(h:(a++x::post).Pairwise (·<·)) (c:x<=y) (i:∀z∈post,y<z):(a++y::post).Pairwise (·<·):=by
 rw[cV,cy] at h ⊢;refine fT (h) λf b d=>?_;clear h;refine c7 (b) λj g=>?_;clear b;refine⟨f,⟨i,g⟩,λu e v hv=>?_⟩;rcases yg hv with rfl|hv
 ·have:=d u e x (by simp);exact bL this c
 ·exact d u e v (yi _ hv)
theorem Du {K:Hp->Prop}{k:Int}{x:AV}(h:H[i]?=some (.list l)) (c:l.length<=1000) (a:0<=k) (b:k<l.length) (q:K (H.set i (.list (l.set k.toNat x)))):pI (.ref i) (.int k) x H K:=by unfold pI asI;simp only[h];exact⟨by exact z123 c,a,b,q⟩
def wj (Φ:Fun):Prop:=∀(k:Nat) (n:Int) (f:Fc) (kd m:Int) (H:Hp) (Q:PQ),RoK k n f->k<50->0<=kd->kd<8->0<=m->(∀f' H',RoK (k+1) n f'->H<+:H'->Q (roA n f') H')->Φ "_law_other_facts" [roA n f,.int kd,.int m] H Q
theorem GK {Φ:Fun}(cp:p_ Φ){k:Nat}{n:Int}{f:Fc}{O m:Int}{H:Hp}{Q:PQ}(hr:RoK k n f) (a4:k<50) (d0:0<=O) (d8:O<8) (m0:0<=m) (h:∀t H',RoK (k+1) n t->H<+:H'->Q (roA n t) H'):wpF Φ qz [roA n f,.int O,.int m] H Q:=by
 refine jA (id hr) λD R W J=>?_;have hn:n<=10^32:=by exact z352 D W
 have mk:∀{t:Fc},t.ok (k+1)->RoK (k+1) n t:=λo=>⟨by exact dW a4,R,by exact z361 W,o⟩;unfold roA at h ⊢
 ((refine⟨rfl,?_⟩;simp only[lst,aM,aO,am]))
 simp only[qz];walk_at"wp";refine⟨by simp[ag],?_⟩;refine gC (λh3=>?_) (λh3=>?_)
 ·refine kA (sj h3) λa b L=>?_;subst L;simp only[Fc.facts];walk_at"wp";refine⟨by simp[ag],by decide,by simp[ag],by decide,ye rfl,ye rfl,?_⟩
  (simp only[gP,jv,bV])
  refine fT (J) λX b0 b1=>?_;clear J;refine c7 (X) λC F=>?_;clear X;exact h (.split (a+1-O%2) (b+O%2)) H (mk ⟨⟨by exact z364 C,by exact z365 F⟩,by exact z366 b0,by exact z367 b1⟩) (af _)
 simp -implicitDefEqProofs only[↓k_itef,↓ss_nil,↓thenS_next,↓ss_cons,↓s_ite,↓e_cmp,↓e_locS,↓e_loc0,↓k_cmp1,↓e_cst,↓k_cmp2,↓c_eqS,↓k_ite];refine gC (λh1=>?_) (λh1=>?_)
 ·walk_at"wp";refine⟨by decide,ye rfl,ye rfl,?_⟩
  (simp only[gP,jv,bV])
  exact h (.power (1+m%3)) H (mk ⟨by exact z368,by exact z369⟩) (af _)
 walk_at"wp";have w:∀b:Int,bK k b->∀z∈[AV.int (n-1),.int 1,.int n,.int (if (10:Int)^aG 30<b+n then 10^aG 30 else b+n)],∃i,z=.int i/\bK (k+1) i:=by
  intro b A z c;have a2:(10:Int)^aG 30=1000000000000000000000000000000:=rfl;rw[a2] at c;refine c7 (A) λb0 b1=>?_;clear A;simp only[cA,cJ,or_false] at c;rcases c with rfl|rfl|rfl|rfl
  ·exact⟨_,rfl,by exact nN R,by exact z370 D W⟩
  ·exact⟨_,rfl,by exact cS 1,by exact z371⟩
  ·exact⟨_,rfl,by exact aj R,by exact z372 D W⟩
  ·refine⟨_,rfl,?_⟩;split<;>exact⟨by lia,by lia⟩
 have Z:∀b:Int,bK k b->∀z∈[AV.str "root",AV.str "power"],∃t:Fc,t.ok (k+1)/\[AV.int n,z,AV.tup [AV.int b]]=[AV.int n,AV.str t.word,AV.tup t.facts]:=by
  intro b A z c;have:bK (k+1) b:=A;simp only[cA,cJ,or_false] at c;rcases c with rfl|rfl
  ·exact⟨.root b,this,rfl⟩
  ·exact⟨.power b,this,rfl⟩
 rcases xU h1 h3 with⟨b,ps,rfl⟩|⟨b,rfl⟩|⟨b,rfl⟩
 ·refine fT (J) λA u g=>?_;clear J;simp only[Fc.facts,Fc.word,psT];walk_at"wp";refine⟨by simp[ag],?_⟩;refine fR (λI=>?_) (λI=>?_)
  ·walk_at"wp";refine⟨by decide,by decide,by decide,ye rfl,?_⟩;refine n9 dG (by(first|exact ye rfl|simp)) d0 I λz c=>?_;refine aK (w b A z c) λi v V=>?_;subst v;walk_at"wp";refine⟨ye rfl,by decide,ye rfl,ye rfl,ye rfl,?_⟩;rw[lsl1];exact h (.prime i ps) _ (mk ⟨V,(Fc.up (f:=.prime b ps) ⟨A,u,g⟩).2⟩) bR
  walk_at"wp";refine gC (λy=>absurd y (by decide)) (λ_=>?_);walk_at"wp";refine gC (λy=>absurd y (by decide)) (λ_=>?_);walk_at"wp";refine⟨by simp[ag],?_⟩;have S:ps.length<=10+k:=u.2.1;have N:1<=ps.length:=eU.mpr u.1;have E:(ps.map prAV).length<=1000:=by(first|exact yk _ (by decide)|(simp;exact z353 D S))
  refine⟨szL E,?_⟩;walk_at"wp";refine oP dG E ?_;walk_at"wp";refine⟨by rw[ya];exact dw.mpr N,?_⟩;have e1:((ps.map prAV).length:Int)=ps.length:=by simp
  rw[e1];simp only[gP (show(0:Int)<=ps.length by exact z158)];have C:=aT m (show(ps.length:Int)≠0 by exact dw.mpr N);have F:=yk m (show(0:Int)<ps.length by exact fW.mpr N);generalize m%ps.length=a at C F;have fin:∀(i:Int) (B:List (Int×Int)) (j:Nat) (o8:Option AV) (H':Hp),H<+:H'->H'[j]?=some (.list (B.map prAV))->i<=10^30->PsK (k+1) B->Ris B->wpSs Φ (qz.body.drop 9) [some (.tup [.int n,.str "prime",.tup [.int b,.tup (ps.map prAV)]]),some (.int O),some (.int m),some (.int n),some (.str "prime"),some (.tup [.int b,.tup (ps.map prAV)]),some (.int i),some (.ref j),o8] H' (i6 Q):=by
   intro i B j o8 H' hp hj a3 K Y;simp only[qz,hF];walk_at"wp";have:=K.2.1;refine pi hj (by rw[ya];exact z373 D this) ?_;walk_at"wp";refine⟨ye rfl,ye rfl,?_⟩;refine h (.prime (if i>1 then i else 1) B) _ (mk ⟨?_,K,Y⟩) hp;split
   ·exact⟨by lia,a3⟩
   ·exact⟨by exact cS 1,by exact z371⟩
  have G:∃p,ps[a.toNat]?=some p/\p∈ps:=⟨ps[a.toNat]'(by exact(eS C).mpr F),ak _,eW _⟩;refine aK (G) λp T a5=>?_;clear G;have pa:∀{H':Hp}{j:Nat}{Q':PQ},H'[j]?=some (.list (ps.map prAV))->Q' (.tup [.int p.1,.int p.2]) H'->jT (.ref j) (.int a) H' Q':=λ{H' j Q'} hj q=>oO (l:=ps.map prAV) (by simp[anyL,seqL,hj]) (by exact z123 E) C (by rw[aq,T];rfl) q;refine jA (u.2.2 p a5) λq2 q3 t1 t2=>?_;have M:b<=10^30:=A.2;have s:PsK (k+1) ps:=(Fc.up (f:=.prime b ps) ⟨A,u,g⟩).2.1;refine fR (λy=>?_) (λy=>?_)
  ·walk_at"wp";refine pa dG ?_;walk_at"wp";refine⟨by simp[ag],?_⟩;refine pa dG ?_;walk_at"wp";refine⟨by simp[ag],by decide,ye rfl,?_⟩
   (simp only[gP,jv,bV])
   refine Du dG E C (by(first|exact yk _ (by decide)|(simp;exact z374 F))) ?_;walk_at"wp";refine fin b (ps.set a.toNat (p.1,p.2%100+1)) H.length _ _ (lU bR (az _)) ?_ M ⟨?_,?_,?_⟩ (Do g T)
   ·rw[cR _ _ (az _)];simp[List.map_set,prAV]
   ·intro e;have:=congrArg eg e;rw[bh,gV] at this;exact z375 C F this
   ·rw[bh];exact dY S
   ·intro x d;rcases List.mem_or_eq_of_mem_set d with d|rfl
    ·exact s.2.2 x d
    ·exact⟨q2,by lia,by show 1<=p.2%100+1;exact z376,by show p.2%100+1<=100;exact z377⟩
  walk_at"wp";have last:wpSs Φ [MS.ite (.cmp .eq (.loc 1) (.cst (.int 6))) [.asg 7 (.bin .add (.loc 7) (.lst [.tup [.bin .add (.bin .add (.idx (.idx (.loc 7) (.neg (.cst (.int 1)))) (.cst (.int 0))) (.cst (.int 1))) (.bin .mod (.loc 2) (.cst (.int 9))),.cst (.int 1)]]))] [.ite (.cmp .eq (.bin .mod (.loc 2) (.cst (.int 3))) (.cst (.int 0))) [.ret (.tup [.loc 3,.cst (.str "power"),.tup [.loc 6]])] [.asg 6 (.call "_law_power" [.loc 6,.idx (.idx (.loc 7) (.loc 8)) (.cst (.int 0)),.loc 3])]]]
    [some (.tup [.int n,.str "prime",.tup [.int b,.tup (ps.map prAV)]]),some (.int O),some (.int m),some (.int n),some (.str "prime"),some (.tup [.int b,.tup (ps.map prAV)]),some (.int b),some (.ref H.length),some (.int a)] (H++[.list (ps.map prAV)]) (o_ Φ [] (o_ Φ (qz.body.drop 9) (i6 Q))):=by
   walk_at"wp";refine fR (λh6=>?_) (λh6=>?_)
   ·walk_at"wp";refine B3 dG E (by(first|exact yk _ (by decide)|(simp;exact z378 C F))) λz c=>?_;rw[List.getLast?_map] at c;refine aK (yf c) λr U L=>?_;subst L;have a6:r∈ps:=List.mem_of_getLast? U;simp only[prAV];walk_at"wp";refine⟨by simp[ag],by decide,ye rfl,ye rfl,?_⟩
    (simp only[gP,jv,bV])
    refine pd (dJ bR dG) dG (by rw[ya];simp;exact z379 D S) ?_;walk_at"wp";refine jA (u.2.2 r a6) λr2 r3 _ _=>?_;refine fin b (ps++[(r.1+1+m%9,1)]) _ _ _ (bR.trans (bR.trans bR)) ?_ M ⟨by simp,by rw[aC];simp;exact bz S 1,?_⟩ (DT g λx d=>?_)
    ·rw[dG];simp[prAV]
    ·intro x d;rcases yd d with d|d
     ·exact s.2.2 x d
     ·rw[yb d];exact⟨by show 2<=r.1+1+m%9;exact z380 r2,by show r.1+1+m%9<=_;exact z381 r3,cS _,(by decide:(1:Int)<=100)⟩
    ·have:=Ff g U x d;exact z382 this
   ·walk_at"wp";refine⟨by decide,?_⟩
    (simp only[gP,jv,bV])
    refine fR (λh7=>?_) (λh7=>?_)
    ·walk_at"wp";refine⟨ye rfl,ye rfl,?_⟩;exact h (.power b) _ (mk A) bR
    ·walk_at"wp";refine pa dG ?_;walk_at"wp";refine⟨by simp[ag],?_⟩;refine cp b p.1 n _ _ (qT D A) (by exact z231 q2) (by exact z383 D q3) (by exact aj R) hn ?_;walk_at"wp";have u0:=aT (b^p.1.toNat) (show n≠0 by exact z229 R);have u1:=yk (b^p.1.toNat) (show 0<n by exact z384 R);exact fin _ ps _ _ _ bR dG (by show pw b p.1 n<=_;unfold pw;exact z385 D W u1) s g
  refine fR (λh6=>?_) (λh6=>?_)
  ·walk_at"wp";refine oP dG E ?_;walk_at"wp";rw[e1];refine fR (λh7=>?_) (λh7=>?_)
   ·walk_at"wp";refine⟨by assumption,oM dG ?_⟩;walk_at"wp";refine⟨szL E,by exact fe C,oM (dJ bR dG) ?_⟩;walk_at"wp";refine⟨szL E,?_⟩;rw[lT,lT];have l1:=@zl _ ps none (some a);have l2:=@zl _ ps (some (a+1)) none;have l3:=yV C F;refine pd (dJ bR dG) dG (by rw[ya,ya];exact z386 E e1 l3) ?_;walk_at"wp";refine fin b (gm ps none (some a)++gm ps (some (a+1)) none) _ _ _ (bR.trans (bR.trans (bR.trans bR))) (by rw[dG,aQ]) M ⟨?_,by rw[aC];exact z387 S l3,?_⟩ (Fe g)
    ·intro e;have:=congrArg eg e;rw[aC,gV] at this;exact z388 h7 l3 this
    ·intro x d;rcases yd d with d|d<;>exact s.2.2 x (u4 d)
   ·exact last
  ·exact last
 ·simp only[Fc.facts,Fc.word];walk_at"wp";refine⟨by simp[ag],?_⟩;refine fR (λI=>?_) (λI=>?_)
  ·walk_at"wp";refine⟨by decide,by decide,by decide,ye rfl,?_⟩;refine n9 dG (by(first|exact ye rfl|simp)) d0 I λz c=>?_;refine aK (w b J z c) λi v V=>?_;subst v;walk_at"wp";refine⟨ye rfl,by decide,ye rfl,ye rfl,ye rfl,?_⟩;rw[lsl1];exact h (.power i) _ (mk V) bR
  walk_at"wp";refine gC (λ_=>?_) (λy=>absurd y (by decide));walk_at"wp";refine⟨by decide,?_⟩;refine n9 dG (by(first|exact ye rfl|simp)) (by split<;>decide) (by split<;>decide) λz c=>?_;refine aK (Z b J z c) λt P e=>?_;walk_at"wp";refine⟨ye rfl,?_⟩;rw[e];exact h t _ (mk P) bR
 ·simp only[Fc.facts,Fc.word];walk_at"wp";refine⟨by simp[ag],?_⟩;refine fR (λI=>?_) (λI=>?_)
  ·walk_at"wp";refine⟨by decide,by decide,by decide,ye rfl,?_⟩;refine n9 dG (by(first|exact ye rfl|simp)) d0 I λz c=>?_;refine aK (w b J z c) λi v V=>?_;subst v;walk_at"wp";refine⟨ye rfl,by decide,ye rfl,ye rfl,ye rfl,?_⟩;rw[lsl1];exact h (.root i) _ (mk V) bR
  walk_at"wp";refine gC (λy=>absurd y (by decide)) (λ_=>?_);walk_at"wp";refine gC (λ_=>?_) (λy=>absurd y (by decide));walk_at"wp";refine⟨by decide,?_⟩;refine n9 dG (by(first|exact ye rfl|simp)) (by split<;>decide) (by split<;>decide) λz c=>?_;refine aK (Z b J z c) λt P e=>?_;walk_at"wp";refine⟨ye rfl,?_⟩;rw[e];exact h t _ (mk P) bR
noncomputable def roP (r:Int×Fc):AV:=roA r.1 r.2
def RsK (k:Nat) (rs:List (Int×Fc)):Prop:=rs≠[]/\rs.length<=63/\(∀r∈rs,RoK k r.1 r.2)/\(rs.map (·.1)).Pairwise (·<·)
def w_ (Φ:Fun):Prop:=∀(k i:Nat) (rs:List (Int×Fc)) (c m:Int) (H:Hp) (Q:PQ),H[i]?=some (.list (rs.map roP))->RsK k rs->k<50->0<=c->0<=m->(∀j rs' H',H<+:H'->H'[j]?=some (.list (rs'.map roP))->RsK (k+1) rs'->Q (.ref j) H')->Φ "_law_spoilt" [.ref i,.int c,.int m] H Q
theorem Cb {Φ:Fun}(co:wj Φ){k i:Nat}{rs:List (Int×Fc)}{c m:Int}{H:Hp}{Q:PQ}(hi:H[i]?=some (.list (rs.map roP))) (K:RsK k rs) (w:k<50) (c0:0<=c) (m0:0<=m) (h:∀j M H',H<+:H'->H'[j]?=some (.list (M.map roP))->RsK (k+1) M->Q (.ref j) H'):wpF Φ pD [.ref i,.int c,.int m] H Q:=by
 refine jA (K) λa2 b G o=>?_;clear K;have l1:1<=rs.length:=eU.mpr a2;have p:(rs.map roP).length<=1000:=by rw[ya];exact z124 b
 have O:((rs.map roP).length:Int)=rs.length:=by simp
 ((refine⟨rfl,?_⟩;simp only[lst,aM,aO,am]))
 simp only[pD];walk_at"wp";refine oP hi p ?_;walk_at"wp";refine⟨by exact z389 l1 O,by decide,mq (by decide),by decide,?_⟩;rw[O];simp only[gP (show(0:Int)<=rs.length by exact z158)]
 (simp only[gP,jv,bV])
 have n:=aT c (show(rs.length:Int)≠0 by exact dw.mpr l1);have N:=yk c (show(0:Int)<rs.length by exact fW.mpr l1);generalize c%rs.length=a at n N;obtain⟨r,E,Y⟩:∃r,rs[a.toNat]?=some r/\r∈rs:=⟨rs[a.toNat]'(by exact(eS n).mpr N),ak _,eW _⟩;refine oO (l:=rs.map roP) (z:=roA r.1 r.2) (by simp[anyL,seqL,hi]) (by exact z123 p) n (by rw[aq,E];rfl) ?_;have P:=G r Y;have F:=yV n N;have u0:0<=c/64%10:=by exact z390
 have u1:c/64%10<10:=by exact z391
 generalize c/64%10=d at u0 u1;have fin:∀(u:List (Int×Fc)) (H':Hp),H<+:H'->(∀x∈u,RoK (k+1) x.1 x.2)->u.length<=1->(∀x∈u,r.1<=x.1/\∀y∈gm rs (some (a+1)) none,x.1<y.1)->1<=(gm rs none (some a)).length+u.length+(gm rs (some (a+1)) none).length->∀(j:Nat),H'[j]?=some (.list ((gm rs none (some a)++u++gm rs (some (a+1)) none).map roP))->Q (.ref j) H':=by
  intro u H' hp s h1 U h2 j hj;refine h j _ H' hp hj ⟨?_,?_,?_,?_⟩
  ·intro e;have:=congrArg eg e;rw[aC,aC,gV] at this;exact z392 h2 this
  ·rw[aC,aC];exact z393 b F h1
  ·intro x g;rcases yd g with g|g
   ·rcases yd g with g|g
    ·exact(G x (u4 g)).up w
    ·exact s x g
   ·exact(G x (u4 g)).up w
  ·rcases Bn h1 with rfl|⟨x,rfl⟩
   ·rw[gX];exact eG (List.Sublist.map _ xu) o
   ·refine c7 (U x (by simp)) λg1 g2=>?_;rw[bg,aQ,mD,aF];refine Dm (x:=r.1) ?_ g1 λz hz=>?_
    ·rw[<-aF (f:=al),<-aQ,tP n E];exact o
    ·refine aK (yh hz) λy t T=>?_;subst T;exact g2 y t
 have v:∀y∈gm rs (some (a+1)) none,r.1<y.1:=λy t=>by have:=tP n E;rw[<-this,aQ,aF,cV,cy] at o;exact o.2.1.1 y.1 (yo ⟨y,t,rfl⟩)
 have J:wpSs Φ (pD.body.drop 5) [some (.ref i),some (.int c),some (.int m),some (.int a),some (.int d),some (roA r.1 r.2)] H (i6 Q):=by
  simp only[pD,hF];walk_at"wp";refine⟨by assumption,oM hi ?_⟩;walk_at"wp";refine⟨szL p,?_⟩;walk_at"wp";refine⟨by decide,?_⟩
  (simp only[gP,jv,bV])
  refine co k r.1 r.2 (d%8) m _ _ P w (by exact z394) (by exact z395) m0 λf' H' X D=>?_;walk_at"wp";refine⟨ye rfl,?_⟩;refine pd (dJ bR (dJ D dG)) dG (by rw[lT,ya];simp;exact z396 b F) ?_;walk_at"wp";refine⟨by exact fe n,oM (dJ (bR.trans (D.trans (bR.trans bR))) hi) ?_⟩;walk_at"wp";refine⟨szL p,?_⟩;refine pd (dJ bR dG) dG (by rw[lT,lT,aC,ya,ya];simp;exact z397 b F) ?_;walk_at"wp";refine fin [(r.1,f')] _ (bR.trans (D.trans (bR.trans (bR.trans (bR.trans bR))))) (λx g=>by rw[yb g];exact X) (az _) (λx g=>by rw[yb g];exact⟨cS _,v⟩) (by simp;exact z398) _ (by rw[dG,lT,lT];simp[roP])
 have A:wpSs Φ (pD.body.drop 4) [some (.ref i),some (.int c),some (.int m),some (.int a),some (.int d),some (roA r.1 r.2)] H (i6 Q):=by
  simp only[pD,hF];have B:(∀y∈gm rs (some (a+1)) none,r.1+1<y.1)->wpSs Φ [.ret (.bin .add (.bin .add (.slc (.loc 0) [] [.loc 3]) (.lst [.tup [.bin .add (.idx (.loc 5) (.cst (.int 0))) (.cst (.int 1)),.idx (.loc 5) (.cst (.int 1)),.idx (.loc 5) (.cst (.int 2))]])) (.slc (.loc 0) [.bin .add (.loc 3) (.cst (.int 1))] []))] [some (.ref i),some (.int c),some (.int m),some (.int a),some (.int d),some (roA r.1 r.2)] H (o_ Φ (pD.body.drop 5) (i6 Q)):=by intro S;unfold roA;walk_at"wp";refine⟨by assumption,oM hi ?_⟩;walk_at"wp";refine⟨szL p,?_⟩;walk_at"wp";refine⟨by simp[ag],by simp[ag],by simp[ag],ye rfl,ye rfl,?_⟩;refine pd (dJ bR dG) dG (by rw[lT,ya];simp;exact z396 b F) ?_;walk_at"wp";refine⟨by exact fe n,oM (dJ (bR.trans (bR.trans bR)) hi) ?_⟩;walk_at"wp";refine⟨szL p,?_⟩;refine pd (dJ bR dG) dG (by rw[lT,lT,aC,ya,ya];simp;exact z397 b F) ?_;walk_at"wp";refine fin [(r.1+1,r.2)] _ (bR.trans (bR.trans (bR.trans (bR.trans bR)))) (λx g=>by rw[yb g];exact⟨by exact dW w,by have:=P.2.1;show 2<=r.1+1;exact fe this,by have:=P.2.2.1;show r.1+1<=_;exact z399 this,r.2.up P.2.2.2⟩) (az _) (λx g=>by rw[yb g];exact⟨by show r.1<=r.1+1;exact Int.le.intro 1 rfl,S⟩) (by simp;exact z398) _ (by rw[dG,lT,lT];simp[roP,roA])
  walk_at"wp";refine fR (λW=>?_) (λW=>?_)
  ·walk_at"wp";refine oP hi p ?_;walk_at"wp";rw[O];refine fR (λI=>?_) (λI=>?_)
   ·simp only[k_or,k_ort,k_ite,k_itet];refine B λy t=>?_;rw[qw,show min (a+1).toNat rs.length=rs.length by exact z400 I,List.drop_length] at t;cases t
   ·walk_at"wp";obtain⟨u,s⟩:∃u,rs[(a+1).toNat]?=some u:=⟨_,ak (by exact z401 n N I)⟩;refine oO (l:=rs.map roP) (z:=roP u) (by simp[anyL,seqL,hi]) (by exact z123 p) (by exact fe n) (by rw[aq,s];rfl) ?_;have L:∀{x:Int×Fc}{R:PQ},R (.int x.1) H->jT (roA x.1 x.2) (.int 0) H R:=λ{x R} q=>by unfold roA;rw[i_tup0];exact⟨su3,q⟩
    unfold roP;walk_at"wp";refine L ?_;walk_at"wp";refine L ?_;walk_at"wp";refine fR (λV=>?_) (λV=>?_)
    ·simp only[k_ite,k_itet];refine B λy t=>?_;refine cG (ym s) λC e=>?_;rw[qw,bF (aX C),bp C,e] at t;rcases yg t with rfl|t
     ·exact V
     ·have:=tP (by exact fe n) s;rw[<-this,aQ,aF,cV,cy] at o;have Z:y∈gm rs (some (a+1+1)) none:=by rw[qw,show(a+1+1).toNat=(a+1).toNat+1 from Int.toNat_add (ai n (fe (cS _))) (by decide),bF C];exact t
      have:=o.2.1.1 y.1 (yo ⟨y,Z,rfl⟩);exact cH V this
    ·simp only[k_ite,k_itef,ss_nil,thenS_next];exact J
  ·simp only[k_andf,k_ite,k_itef,ss_nil,thenS_next];exact J
 walk_at"wp";refine fR (λW=>?_) (λW=>?_)
 ·walk_at"wp";refine oP hi p ?_;walk_at"wp";rw[O];refine fR (λI=>?_) (λI=>?_)
  ·walk_at"wp";refine⟨by assumption,oM hi ?_⟩;walk_at"wp";refine⟨szL p,by exact fe n,oM (dJ bR hi) ?_⟩;walk_at"wp";refine⟨szL p,?_⟩;refine pd (dJ bR dG) dG (by rw[lT,lT,ya,ya];exact z402 b F) ?_;walk_at"wp";exact fin [] _ (bR.trans (bR.trans bR)) (λx g=>by cases g) (by decide) (λx g=>by cases g) (by simp;exact z403 F I) _ (by rw[dG,lT,lT];simp)
  ·simp only[k_ite,k_itef,ss_nil,thenS_next];exact A
 ·simp only[k_andf,k_ite,k_itef,ss_nil,thenS_next];exact A
end
section
open PySem
noncomputable def py:AV:=.int 1000000000000000000000000000000
noncomputable def qV:AV:=.tup [.str "first",.str "prime",.str "split",.str "power",.str "root"]
noncomputable def vG:AV:=.int 100
noncomputable def u6:MF:=⟨3,3,
 [.ret (.and2 (.isi (.loc 0) .int) (.and2 (.not (.isi (.loc 0) .bool)) (.cmp2 .le .le (.loc 1) (.loc 0) (.loc 2))))]⟩
noncomputable def vq:MF:=⟨1,3,
 [.ite (.or2 (.not (.isi (.loc 0) .tuple)) (.cmp .eq (.bi .len [.loc 0]) (.n 0))) [.ret (.cst (.bool false))] [],
 .asg 1 (.n 1),
 .forr false [2] .plain [.loc 0] [.ite (.or2 (.not (.isi (.loc 2) .tuple)) (.cmp .ne (.bi .len [.loc 2]) (.n 2))) [.ret (.cst (.bool false))] [],
  .ite (.or2 (.not (.call "is_whole" [.idx (.loc 2) (.n 0),.bin .add (.loc 1) (.n 1),.cst py])) (.not (.call "is_whole" [.idx (.loc 2) (.n 1),.n 1,.cst vG]))) [.ret (.cst (.bool false))] [],
  .asg 1 (.idx (.loc 2) (.n 0))],
 .ret (.cst (.bool true))]⟩
noncomputable def ve:MF:=⟨2,2,
 [.ite (.cmp .eq (.loc 0) (.cst (.str "first"))) [.ret (.cmp .eq (.bi .len [.loc 1]) (.n 0))] [],
 .ite (.cmp .eq (.loc 0) (.cst (.str "prime"))) [.ret (.and2 (.cmp .eq (.bi .len [.loc 1]) (.n 2)) (.and2 (.call "is_whole" [.idx (.loc 1) (.n 0),.n 1,.cst py]) (.call "are_powers" [.idx (.loc 1) (.n 1)])))] [],
 .ite (.cmp .eq (.loc 0) (.cst (.str "split"))) [.ret (.and2 (.cmp .eq (.bi .len [.loc 1]) (.n 2)) (.and2 (.call "is_whole" [.idx (.loc 1) (.n 0),.n 2,.cst py]) (.call "is_whole" [.idx (.loc 1) (.n 1),.n 2,.cst py])))] [],
 .ret (.and2 (.cmp .eq (.bi .len [.loc 1]) (.n 1)) (.call "is_whole" [.idx (.loc 1) (.n 0),.n 1,.cst py]))]⟩
noncomputable def uG:MF:=⟨1,1,
 [.ite (.or2 (.not (.isi (.loc 0) .tuple)) (.or2 (.cmp .ne (.bi .len [.loc 0]) (.n 3)) (.not (.call "is_whole" [.idx (.loc 0) (.n 0),.n 2,.cst py])))) [.ret (.cst (.bool false))] [],
 .ite (.or2 (.not (.isi (.idx (.loc 0) (.n 1)) .str)) (.or2 (.cmp .notIn (.idx (.loc 0) (.n 1)) (.cst qV)) (.not (.isi (.idx (.loc 0) (.n 2)) .tuple)))) [.ret (.cst (.bool false))] [],
 .ret (.call "are_facts" [.idx (.loc 0) (.n 1),.idx (.loc 0) (.n 2)])]⟩
noncomputable def oC:List Str:=["first", "prime", "split", "power", "root"]
def SWh (Φ:Fun):Prop:=∀(k a b:Int) (H:Hp) (Q:PQ),a<=k->k<=b->Q (.bool true) H->Φ "is_whole" [.int k,.int a,.int b] H Q
theorem is_whole {k:Int}{Q:PQ}(c:a<=k) (d:k<=b) (h:Q (.bool true) H):wpF Φ u6 [.int k,.int a,.int b] H Q:=by
 ((refine⟨rfl,?_⟩;simp only[lst,aM,aO,am]))
 simp only[u6];walk_at"wp";simp only[lR,lQ,mh,mf,mj];walk_at"wp";simp only[lR,lQ,mh,mf,mj];walk_at"wp";rw[decide_eq_true c];walk_at"wp";rw[decide_eq_true d];exact h
def SPw (Φ:Fun):Prop:=∀(k:Nat) (ps:List (Int×Int)) (H:Hp) (Q:PQ),k<=50->PsK k ps->Ris ps->Q (.bool true) H->Φ "are_powers" [psT ps] H Q
theorem are_powers {Φ:Fun}(c:SWh Φ){k:Nat}{ps:List (Int×Int)}{H:Hp}{Q:PQ}(r:k<=50) (d:PsK k ps) (D:Ris ps) (h:Q (.bool true) H):wpF Φ vq [psT ps] H Q:=by
 refine fT (d) λl B n=>?_;clear d;have ne:ps.length≠0:=λz=>l (bI.mp z);unfold psT
 ((refine⟨rfl,?_⟩;simp only[lst,aM,aO,am]))
 simp only[vq];walk_at"wp";simp only[lR,lQ,mh,mf,mj];walk_at"wp";refine⟨by rw[ya];exact z404 r B,?_⟩;refine fR (λe=>?_) (λe=>?_)
 ·exfalso;rw[ya] at e;exact z405 ne e
 walk_at"wp";refine lC (λi loc H'=>∃(a:Int) (o:Option AV),H'=H/\loc=[some (.tup (ps.map prAV)),some (.int a),o]/\∀p∈ps.drop i,a<p.1) ⟨1,none,rfl,rfl,λp d=>by have:=n p (by simpa using d);exact z406 this⟩ ?_;intro i loc H' f;refine eX (f) λa o b g x=>?_;clear f;subst b;subst g;refine⟨trivial,λy s=>?_,λhi=>?_⟩
 ·rw[aq] at s;refine aK (yf s) λp d b=>?_;subst b;refine cG (ym d) λj e=>?_;have m:ps.drop i=p::ps.drop (i+1):=by rw[bp j,e]
  refine jA (n p (yc d)) λE t u v=>?_;have w:=x p (by rw[m];simp);have A:Ris (p::ps.drop (i+1)):=by rw[<-m];exact eG (iz ..) D
  refine⟨[prAV p],rfl,?_⟩;unfold prAV;walk_at"wp";simp only[lR,lQ,mh,mf,mj];walk_at"wp";refine⟨by simp[ag],?_⟩;refine oY (λz=>absurd rfl z) (λ_=>?_);walk_at"wp";refine⟨by lia,?_⟩;refine c p.1 (a+1) _ H' _ (by exact nO w) (by exact z407 r t) ?_;walk_at"wp";refine⟨by lia,?_⟩;refine c p.2 1 _ H' _ u v ?_;walk_at"wp";refine⟨by lia,?_⟩;exact jG ⟨p.1,_,rfl,rfl,λq C=>(cy.mp A).1 q C⟩
 ·walk_at"wp";exact h
def SFac (Φ:Fun):Prop:=∀(k:Nat) (n:Int) (f:Fc) (H:Hp) (Q:PQ),RoK k n f->Q (.bool true) H->Φ "are_facts" [.str f.word,.tup f.facts] H Q
theorem are_facts {Φ:Fun}(c:SWh Φ) (cp:SPw Φ){k:Nat}{n:Int}{f:Fc}{H:Hp}{Q:PQ}(o:RoK k n f) (h:Q (.bool true) H):wpF Φ ve [.str f.word,.tup f.facts] H Q:=by
 refine jA (o) λm t u d=>?_;clear o
 ((refine⟨rfl,?_⟩;simp only[lst,aM,aO,am]))
 simp only[ve];walk_at"wp";refine gC (λi=>?_) (λi=>?_)
 ·obtain rfl:=se i;simp only[Fc.facts];walk_at"wp";refine⟨by decide,?_⟩;exact h
 simp -implicitDefEqProofs only[↓k_itef,↓ss_nil,↓thenS_next,↓ss_cons,↓s_ite,↓e_cmp,↓e_locS,↓e_loc0,↓k_cmp1,↓e_cst,↓k_cmp2,↓c_eqS,↓k_ite];refine gC (λj=>?_) (λj=>?_)
 ·refine kA (uy j) λb ps e=>?_;subst e;simp only[Fc.facts];walk_at"wp";refine⟨by simp[ag],?_⟩;refine fR (λ_=>?_) (λz=>absurd rfl z);walk_at"wp";refine⟨by lia,?_⟩;refine c b 1 _ H _ d.1.1 d.1.2 ?_;walk_at"wp";refine⟨by lia,?_⟩;exact cp k ps H _ m d.2.1 d.2.2 h
 walk_at"wp";refine gC (λl=>?_) (λl=>?_)
 ·refine kA (sj l) λa b e=>?_;subst e;refine fT (d) λg r s=>?_;clear d;refine c7 (g) λp q=>?_;clear g;simp only[Fc.facts];walk_at"wp";refine⟨by simp[ag],?_⟩;refine fR (λ_=>?_) (λz=>absurd rfl z);walk_at"wp";refine⟨by lia,?_⟩;refine c a 2 _ H _ p (by exact z408 m q) ?_;walk_at"wp";refine⟨by lia,?_⟩;exact c b 2 _ H _ r (by exact z408 m s) h
 walk_at"wp";rcases wb i j l with⟨b,rfl⟩|⟨b,rfl⟩
 ·simp only[Fc.facts];walk_at"wp";refine⟨by simp[ag],?_⟩;refine fR (λ_=>?_) (λz=>absurd rfl z);walk_at"wp";refine⟨by lia,?_⟩;exact c b 1 _ H _ d.1 d.2 h
 ·simp only[Fc.facts];walk_at"wp";refine⟨by simp[ag],?_⟩;refine fR (λ_=>?_) (λz=>absurd rfl z);walk_at"wp";refine⟨by lia,?_⟩;exact c b 1 _ H _ d.1 d.2 h
theorem Es {w:Str}{K:Bool->Prop}(h:K (oC.contains w)):wpIn (.str w) qV H K:=by
 refine⟨.str w,oC.map .str,rfl,rfl,by simp[bS],?_⟩;have:(List.any (oC.map PyData.str) λz=>bu z (.str w))=oC.contains w:=by simp only[oC,aF,g9,List.any_cons,List.any_nil,bu,List.contains_cons,List.contains_nil,Bool.or_false];simp only[Bool.beq_comm,BEq.comm]
 rw[this];exact h
theorem GJ {w:Str}{Q:PQ}(h:Q (.bool !(oC.contains w)) H):kt .notIn (.str w) qV H Q:=Es (K:=λb=>Q (.bool !b) H) h
def SRow (Φ:Fun):Prop:=∀(k:Nat) (n:Int) (f:Fc) (H:Hp) (Q:PQ),RoK k n f->Q (.bool true) H->Φ "is_row" [roA n f] H Q
theorem is_row {Φ:Fun}(c:SWh Φ) (b:SFac Φ){k:Nat}{n:Int}{f:Fc}{H:Hp}{Q:PQ}(a:RoK k n f) (h:Q (.bool true) H):wpF Φ uG [roA n f] H Q:=by
 have e:=a.2.1;have g:=a.2.2.1;have d:=a.1;unfold roA
 ((refine⟨rfl,?_⟩;simp only[lst,aM,aO,am]))
 simp only[uG];walk_at"wp";simp only[lR,lQ,mh,mf,mj];walk_at"wp";refine⟨by simp[ag],?_⟩;refine oY (λz=>absurd rfl z) (λ_=>?_);walk_at"wp";refine⟨by lia,?_⟩;refine c n 2 _ H _ e (by exact z409 g d) ?_;walk_at"wp";refine⟨by lia,?_⟩;simp only[lR,lQ,mh,mf,mj];walk_at"wp";refine⟨by lia,?_⟩;refine GJ ?_;rw[show oC.contains f.word=true by cases f<;>(simp only[Fc.word];decide+kernel)];simp only[bC];walk_at"wp";refine⟨by lia,?_⟩;simp only[lR,lQ,mh,mf,mj];walk_at"wp";refine⟨by lia,by lia,?_⟩;exact b k n f H _ a h
end
section
open PySem
noncomputable def vc:AV:=.int 200
noncomputable def uR:MF:=⟨1,3,
 [.ite (.or2 (.not (.isi (.loc 0) .tuple)) (.not (.cmp2 .le .le (.n 1) (.bi .len [.loc 0]) (.cst vc)))) [.ret (.cst (.bool false))] [],
 .asg 1 (.n 0),
 .forr false [2] .plain [.loc 0] [.ite (.or2 (.not (.call "is_row" [.loc 2])) (.cmp .le (.idx (.loc 2) (.n 0)) (.loc 1))) [.ret (.cst (.bool false))] [],
  .asg 1 (.idx (.loc 2) (.n 0))],
 .ret (.cst (.bool true))]⟩
noncomputable def u9:MF:=⟨1,4,
 [.asg 1 (.lst []),
 .forr true [2,3] .enum [.loc 0] [.ite (.not (.call "holds" [.loc 3,.loc 1])) [.ret (.loc 2)] [],
  .ite (.call "tells_prime" [.loc 3]) [.expr (.meth .append (.loc 1) [.idx (.loc 3) (.n 0)])] []],
 .ret (.cst .none)]⟩
noncomputable def uS:MF:=⟨1,1,
 [.ret (.and2 (.call "is_slip" [.loc 0]) (.cmp .is (.call "wrong_at" [.loc 0]) (.cst .none)))]⟩
noncomputable def vo:MF:=⟨1,3,
 [.asg 1 (.lst []),
 .forr false [2] .range [.bi .len [.loc 0]] [.ite (.not (.call "_law_holds" [.idx (.loc 0) (.loc 2),.loc 1])) [.ret (.loc 2)] [],
  .ite (.call "_law_tells" [.idx (.loc 0) (.loc 2)]) [.expr (.meth .append (.loc 1) [.idx (.idx (.loc 0) (.loc 2)) (.n 0)])] []],
 .ret (.cst .none)]⟩
theorem qO {n:Int}{f:Fc}{Q:PQ}(q:Q (.int n) H):jT (roA n f) (.int 0) H Q:=by unfold roA;rw[i_tup0];exact⟨su3,q⟩
def NoT (H:Hp) (v:AV):Prop:=isi H v .tuple=false\/v=.tup []
def vU (Φ:Fun):Prop:=∀(v:AV) (H:Hp) (Q:PQ),((∃k rs,v=.tup (rs.map roP)/\RsK k rs/\Q (.bool true) H)\/(NoT H v/\Q (.bool false) H))->Φ "is_slip" [v] H Q
theorem is_slip {Φ:Fun}(c:SRow Φ){v:AV}{H:Hp}{Q:PQ}(h:(∃k rs,v=.tup (rs.map roP)/\RsK k rs/\Q (.bool true) H)\/(NoT H v/\Q (.bool false) H)):wpF Φ uR [v] H Q:=by
 ((refine⟨rfl,?_⟩;simp only[lst,aM,aO,am]))
 simp only[uR];walk_at"wp";rcases h with⟨k,rs,rfl,⟨u,n,p,w⟩,h⟩|⟨hv|rfl,h⟩
 ·have C:1<=rs.length:=eU.mpr u;simp only[lR,lQ,mh,mf,mj];walk_at"wp";refine⟨by rw[ya];exact z410 n,?_⟩;rw[ya,decide_eq_true (show(1:Int)<=rs.length by exact eh.mp C)];walk_at"wp";refine oY (K:=λb=>oj Φ _ _ _ _ _ b) (λz=>absurd (show(rs.length:Int)<=200 by exact z411 n) z) (λ_=>?_);walk_at"wp";refine lC (λi loc H'=>∃(a:Int) (o:Option AV),H'=H/\loc=[some (.tup (rs.map roP)),some (.int a),o]/\∀r∈rs.drop i,a<r.1) ⟨0,none,rfl,rfl,λr g=>by have:=(p r (by simpa using g)).2.1;exact z384 this⟩ ?_;intro i loc H' f;refine eX (f) λa o d j x=>?_;clear f;subst d;subst j;refine⟨trivial,λy s=>?_,λhi=>?_⟩
  ·rw[aq] at s;refine aK (yf s) λr g d=>?_;subst d;refine cG (ym g) λl e=>?_;have m:rs.drop i=r::rs.drop (i+1):=by rw[bp l,e]
   have A:((r::rs.drop (i+1)).map (·.1)).Pairwise (·<·):=by rw[<-m];exact eG ((iz ..).map _) w
   have t:=x r (by rw[m];simp);refine⟨[roP r],rfl,?_⟩;unfold roP;walk_at"wp";refine c k r.1 r.2 H' _ (p r (yc g)) ?_;walk_at"wp";refine qO ?_;walk_at"wp";refine fR (λz=>absurd t (by exact Int.not_lt_of_ge z)) (λ_=>?_);walk_at"wp";refine qO ?_;walk_at"wp";exact jG ⟨r.1,_,rfl,rfl,λq B=>(cy.mp A).1 q.1 (yo ⟨q,B,rfl⟩)⟩
  ·walk_at"wp";exact h
 ·rw[hv];walk_at"wp";exact h
 ·simp only[lR,lQ,mh,mf,mj];walk_at"wp";refine⟨by decide,?_⟩;exact h
noncomputable def wr:Nat->List Int->List (Int×Fc)->Option Nat
 | _,_,[]=>none
 | k,pr,r::rs=>if r.2.holds r.1 pr then wr (k+1) (if r.2.tells then pr++[r.1] else pr) rs else some k
noncomputable def optA:Option Nat->AV
 | none=>.none
 | some k=>.int k
theorem pe {Q:PQ}{x:AV}(h:H[i]?=some (.list l)) (a:l.length<=1000) (q:Q .none (H.set i (.list (l++[x])))):wpMt .append (.ref i) [x] H Q:=by rw[sJ h];exact⟨szL a,q⟩
def xd (Φ:Fun):Prop:=∀(k:Nat) (rs:List (Int×Fc)) (H:Hp) (Q:PQ),rs.length<=200->(∀r∈rs,RoK k r.1 r.2)->(∀H',H<+:H'->Q (optA (wr 0 [] rs)) H')->Φ "wrong_at" [.tup (rs.map roP)] H Q
theorem wrong_at {Φ:Fun}(z:rU "holds" Φ) (A:pK "tells_prime" Φ){k:Nat}{rs:List (Int×Fc)}{H:Hp}{Q:PQ}(B:rs.length<=200) (s:∀r∈rs,RoK k r.1 r.2) (h:∀H',H<+:H'->Q (optA (wr 0 [] rs)) H'):wpF Φ u9 [.tup (rs.map roP)] H Q:=by
 ((refine⟨rfl,?_⟩;simp only[lst,aM,aO,am]))
 simp only[u9];walk_at"wp";refine⟨by decide,?_⟩;refine lC (λi loc H'=>∃(d:List Int) (o2 w:Option AV),H<+:H'/\H'[H.length]?=some (.list (d.map .int))/\d.length<=i/\wr i d (rs.drop i)=wr 0 [] rs/\loc=[some (.tup (rs.map roP)),some (.ref H.length),o2,w]) ⟨[],none,none,bR,dG,az _,by simp,rfl⟩ ?_;intro i loc H' f;refine lG (f) λd o2 w j t g a m=>?_;clear f;subst m;refine⟨trivial,λy v=>?_,λhi=>?_⟩
 ·rw[yO,aq,Option.map_map] at v;refine aK (yf v) λr u l=>?_;subst l;refine cG (ym u) λp e=>?_;rw[bp p,e,wr] at a;have q:=s r (yc u);refine⟨[.int i,roP r],rfl,?_⟩;unfold roP;walk_at"wp";refine z k H.length r.1 r.2 d H' _ t q λx p2=>?_;have c:=dJ p2 t;walk_at"wp";refine gC (K:=λb=>oj Φ _ _ _ _ _ (!b)) (λn=>?_) (λn=>?_)
  ·simp only[bC];walk_at"wp";rw[n,if_pos rfl] at a;refine A r.1 r.2 x _ ?_;walk_at"wp";refine gC (K:=λb=>oj Φ _ _ _ _ _ b) (λo=>?_) (λo=>?_)
   ·walk_at"wp";rw[o,if_pos rfl] at a;refine⟨mr c,?_⟩;refine qO ?_;walk_at"wp";refine pe c (by rw[ya];lia) ?_;walk_at"wp";refine jG ⟨d++[r.1],_,_,lU (j.trans p2) (az _),?_,by rw[aC];simp;exact z412 g,a,rfl⟩;rw[lS c];simp
   ·walk_at"wp";rw[o,if_neg (by decide)] at a;exact jG ⟨d,_,_,j.trans p2,c,by exact c6 g,a,rfl⟩
  ·simp only[bT];walk_at"wp";rw[n,if_neg (by decide)] at a;rw[<-a] at h;exact h _ (j.trans p2)
 ·walk_at"wp";have:rs.drop i=[]:=d7 (by rw[hi,yX];simp);rw[this] at a;rw[<-a] at h;exact h _ j
theorem is_none {o:Option Nat}{Q:PQ}(q:Q (.bool o.isNone) H):kt .is (optA o) .none H Q:=by
 cases o with
 | none=>exact⟨true,rfl,q⟩
 | some k=>exact⟨false,rfl,q⟩
theorem y2 {o:Option Nat}{Q:PQ}(q:Q (.bool !o.isNone) H):kt .isNot (optA o) .none H Q:=by
 cases o with
 | none=>exact⟨true,rfl,q⟩
 | some k=>exact⟨false,rfl,q⟩
def pV (Φ:Fun):Prop:=∀(v:AV) (H:Hp) (Q:PQ),((∃k rs,v=.tup (rs.map roP)/\RsK k rs/\∀H',H<+:H'->Q (.bool (wr 0 [] rs).isNone) H')\/(NoT H v/\Q (.bool false) H))->Φ "lets_by" [v] H Q
theorem lets_by (b:vU Φ) (c:xd Φ){Q:PQ}(h:(∃k rs,v=.tup (rs.map roP)/\RsK k rs/\∀H',H<+:H'->Q (.bool (wr 0 [] rs).isNone) H')\/(NoT H v/\Q (.bool false) H)):wpF Φ uS [v] H Q:=by
 ((refine⟨rfl,?_⟩;simp only[lst,aM,aO,am]))
 simp only[uS];walk_at"wp";rcases h with⟨k,rs,rfl,a,q⟩|⟨no,q⟩
 ·refine b _ H _ (.inl ⟨k,rs,rfl,a,?_⟩);walk_at"wp";refine c k rs H _ (by have:=a.2.1;exact z413 this) a.2.2.1 λH' p=>?_;walk_at"wp";exact is_none (q H' p)
 ·refine b _ H _ (.inr ⟨no,?_⟩);walk_at"wp";exact q
end
section
open PySem
noncomputable def Rw.ro:Rw->Int×Fc
 | .first=>(2,.first)
 | .prime n b ps=>(n,.prime b ps)
 | .split n a b=>(n,.split a b)
 | .power n b=>(n,.power b)
 | .root n b=>(n,.root b)
theorem AN (r:Rw):roP r.ro=r.av:=by cases r<;>rfl
theorem wQ (rs:List Rw):(rs.map Rw.ro).map roP=rs.map Rw.av:=by rw[cE];exact cF λr _=>AN r
theorem wP (r:Rw):r.ro.1=r.num:=by cases r<;>rfl
theorem Fh (r:Rw):r.ro.2.tells=r.tells:=by cases r<;>rfl
theorem Dq (rs:List Rw):(rs.map Rw.ro).map (·.1)=rs.map Rw.num:=by rw[cE];exact cF λr _=>wP r
theorem Ar {r:Rw}(h:r.ok):RoK 0 r.ro.1 r.ro.2:=by
 cases r with
 | first=>exact⟨by decide,by decide,by decide,trivial⟩
 | prime n b ps =>
  refine m7 (h) λd c e f i g=>?_;clear h;refine fT (g) λj k l=>?_;clear g;exact⟨by decide,by show 2<=n;exact aj d,by show n<=_;exact aj c,⟨e,by exact z414 c f⟩,⟨i,by exact z415 j,λp m=>by have:=k p m;exact z416 this⟩,l⟩
 | split n a b =>
  refine m7 (h) λd c e f i j=>?_;clear h;have:2*2<=a*b:=fc d c (by decide) (by exact z231 d);exact⟨by decide,by show 2<=n;exact z417 i this,by show n<=_;exact aj j,⟨d,by exact aj e⟩,c,by exact aj f⟩
 | power n b =>
  refine jA (h) λd c e f=>?_;clear h;exact⟨by decide,d,by show n<=_;exact aj c,e,by exact z414 c f⟩
 | root n b =>
  refine jA (h) λd c e f=>?_;clear h;exact⟨by decide,d,by show n<=_;exact aj c,e,by exact z414 c f⟩
theorem wR {P:Rw->Prop}{rs:List Rw}(b:N<=62) (h:RsC P N rs):RsK 0 (rs.map Rw.ro) :=
 ⟨λe=>h.ne (nE.mp e),by rw[ya];have:=h.len;exact z418 b this,λx d=>by
  refine aK (yh d) λr c a=>?_;subst a;exact Ar (h.ok r c),by rw[Dq];exact h.inc⟩
theorem Ep {r:Rw}{c:List Int}(ok:r.ok) (t:r.sem) (h:∀q∈r.needs,q∈c):r.ro.2.holds r.ro.1 c=true:=by
 cases r with
 | first=>rfl
 | prime n b ps =>
  refine jA (t) λg e f _=>?_;clear t;show((ps.all λp=>c.contains p.1)&&(decide (gA ps=n-1)&&(decide (b<n)&&jV n b ps)))=true;have:(ps.all λp=>c.contains p.1)=true:=aN.mpr λp d=>by have:=h p.1 (yo ⟨p,d,rfl⟩);simpa using this
  rw[this,decide_eq_true e,decide_eq_true g,f];rfl
 | split n a b=>exact decide_eq_true ok.2.2.2.2.1.symm
 | power n b =>
  show(decide (b<n)&&!decide (pw b (n-1) n=1))=true;rw[decide_eq_true t.1,decide_eq_false t.2];rfl
 | root n b =>
  refine fT (t) λe f i=>?_;clear t;show((decide (1<b)&&decide (b<n-1))&&decide (b*b%n=1))=true;rw[decide_eq_true e,decide_eq_true f,decide_eq_true i];rfl
theorem ED {r:Rw}(ok:r.ok) (t:r.sem):∀q∈r.needs,q<r.num/\q<402/\0<=q/\isPB q.toNat=true:=by
 cases r with
 | prime n b ps =>
  refine jA (t) λ_ w _ m=>?_;clear t;refine m7 (ok) λ_ _ _ _ _ f=>?_;clear ok;refine fT (f) λ_ k _=>?_;clear f;intro q l;refine aK (yh l) λp a g=>?_;subst g;have c:∀p∈ps,1<=p.1:=λp a=>by have:=k p a;exact z419 this
  refine cG (cQ a) λi d=>?_;refine cG (d) λhi e=>?_;clear d;have h:=xE c (show ps[i]?=some p by rw[ak hi,e]) (j:=1) (by have:=k p a;exact z420 this);have o:1<=gA (ps.take i):=tc λx v=>c x (bq v);have u:=c p a;have s:p.1<=gA (ps.take i)*p.1^1:=by
   rw[show p.1^1=p.1 by rw[dE,gx,iD]];have:=Int.mul_le_mul_of_nonneg_right o (show 0<=p.1 by exact aj u)
   rwa [iD] at this
  have:=k p a;exact⟨by show p.1<n;exact z421 w h s,(m p a).2,by exact z422 this,(m p a).1⟩
 | _=>intro q l;cases l
noncomputable def qP (rs:List Rw):List Int:=(rs.filter Rw.tells).map Rw.num
theorem xX {rs:List Rw}(f:∀r∈rs,r.ok) (j:∀r∈rs,r.tru) (hi:(rs.map Rw.num).Pairwise (·<·)) (g:∀r∈rs,∀q∈r.needs,∃s∈rs,s.num=q):∀(c a:List Rw),rs=a++c->∀k,wr k (qP a) (c.map Rw.ro)=none
 | [],_,_,_=>rfl
 | r::c,a,e,k=>by
  have h:r∈rs:=by rw[e];simp
  have n:=j r h;rw[aF,wr,if_pos]
  ·have:(if r.ro.2.tells then qP a++[r.ro.1] else qP a)=qP (a++[r]):=by rw[Fh,wP];unfold qP;rw[jI,aQ];cases o:r.tells<;>simp[o]
   rw[this];exact xX f j hi g c (a++[r]) (by rw[e];simp) (k+1)
  ·refine Ep (f r h) n.1 λq m=>?_;refine jA (ED (f r h) n.1 q m) λu p v t=>?_;refine aK (g r h q m) λs b i=>?_;subst i;have l:s.tells=true:=by rw[(j s b).2 (by exact m6.mpr p)];exact t
   have d:=hi;rw[e,aQ,aF,cV,cy] at d;rw[e] at b;rcases yd b with b|b
   ·exact yo ⟨s,kW.mpr ⟨b,l⟩,rfl⟩
   ·rcases yg b with rfl|b
    ·lia
    ·have:=d.2.1.1 s.num (yo ⟨s,b,rfl⟩);lia
theorem F7 {rs:List Rw}(h:RsOK rs):wr 0 [] (rs.map Rw.ro)=none:=xX h.ok h.p h.inc (h.cl (by decide)) rs [] rfl 0
end
section
def Pr (p:Nat):Prop:=1<p/\∀d,d∣p->d=1\/d=p
theorem pM {n:Nat}:isPB n=true↔Pr n:=by
 constructor
 ·intro h;simp only[isPB,aS,decide_eq_true_eq,aN,ch,fS,cT,decide_eq_false_iff_not] at h;refine⟨h.1,λd b=>?_⟩;have f:=eu (by lia) b;rcases cN d n with a|c
  ·rcases h.2 d a with q|q
   ·have:d≠0:=by rintro rfl;have:=l7 b;exact z423 a this
    left;exact z424 q this
   ·exact absurd (iQ b) q
  ·right;exact cI f c
 ·intro h;refine uQ h.1 λd g i e=>?_;rcases h.2 d (bO e) with q|q<;>lia
theorem Pr.dvd_mul {p a b:Nat}(c:Pr p) (h:p∣a*b):p∣a\/p∣b:=by
 rcases c.2 (mC p a) (Nat.gcd_dvd_left p a) with e|e
 ·exact .inr (Nat.Coprime.dvd_of_dvd_mul_left e h)
 ·exact .inl (e▸Nat.gcd_dvd_right p a)
theorem Pr.dvd_pow {p a:Nat}(b:Pr p):∀{n:Nat},p∣a^n->p∣a
 | 0,h=>by rw[Nat.pow_zero] at h;have:=eu jh h;have:=b.1;lia
 | n+1,h=>by
  rw[j9] at h;rcases b.dvd_mul h with h|h
  ·exact b.dvd_pow h
  ·exact h
theorem Bw:∀(n:Nat),1<n->∃p,Pr p/\p∣n:=λn=>by
 induction n using Nat.strongRecOn with
 | ind n ih =>
  intro c
  by_cases h:isPB n=true
  ·exact⟨n,pM.mp h,Nat.dvd_refl n⟩
  ·refine eT (xp (n:=n) (by exact dW c) (by simpa using h)) λd a b e=>?_;refine aK (ih d b (by exact j_ a)) λp g f=>?_;exact⟨p,g,lV f (bO e)⟩
theorem xD {l m:List Nat}(b:l.Nodup) (sub:∀x∈l,x∈m) (len:m.length<=l.length):l.Perm m:=by
 induction l generalizing m with
 | nil =>
  cases m with
  | nil=>exact .nil
  | cons=>simp at len
 | cons a l ih =>
  have d:a∈m:=sub a (by simp);have b:=fo.mp b;have f:=List.perm_cons_erase d;refine(List.Perm.cons a (ih b.2 (λx e=>?_) ?_)).trans f.symm
  ·have c:x≠a:=by rintro rfl;exact b.1 e
   exact(mX c).mpr (sub x (yi _ e))
  ·rw[lN d];simp only[b_] at len;exact nr len
noncomputable def upto (n:Nat):List Nat:=(bG (n-1)).map (·+1)
theorem pC {n x:Nat}:x∈upto n↔1<=x/\x<n:=by
 unfold upto;simp only[jY,ch];constructor
 ·rintro⟨k,c,rfl⟩;exact z425 c
 ·rintro⟨a,b⟩;exact⟨x-1,by exact Nat.sub_lt_sub_right a b,by exact cY a⟩
theorem yI {n:Nat}:(upto n).length=n-1:=by simp[upto]
noncomputable def nT (l:List Nat):Nat:=l.foldr (·*·) 1
theorem Gl {l m:List Nat}(h:l.Perm m):nT l=nT m:=by
 induction h with
 | nil=>rfl
 | cons x _ ih=>simp only[nT,kX] at ih ⊢;rw[ih]
 | swap x y l=>simp only[nT,kX];rw[<-iE,<-iE,gr x y]
 | trans _ _ a b=>rw[a,b]
theorem zB (b p:Nat):∀l:List Nat,nT (l.map λi=>b*i%p)%p=b^l.length*nT l%p
 | []=>by simp[nT]
 | x::l=>by have ih:=zB b p l;simp only[nT,aF,kX,b_] at ih ⊢;rw[dj,ih,kT,<-dj,j9];congr 1;rw[Nat.mul_mul_mul_comm,gr b]
theorem yA {p:Nat}(a:Pr p):∀l:List Nat,(∀x∈l,¬ p∣x)->¬ p∣nT l
 | [],_,h=>by have:=eu jh (show p∣1 from h);have:=a.1;lia
 | x::l,hl,h=>by
  rcases a.dvd_mul h with h|h
  ·exact hl x (by simp) h
  ·exact yA a l (λy b=>hl y (yi _ b)) h
theorem qi {p x:Nat}(a:1<=x) (b:x<p):¬ p∣x:=λh=>by have:=eu (by exact cU a) h;exact z426 b this
theorem uY {f:Nat->Nat}{l:List Nat}(g:l.Nodup) (b:∀x∈l,∀y∈l,f x=f y->x=y):(l.map f).Nodup:=by unfold List.Nodup;rw[jX];exact List.Pairwise.imp_of_mem (λc d a e=>a (b _ c _ d e)) g
theorem Gr {n:Nat}:(upto n).Nodup:=uY List.nodup_range λx _ y _ e=>j8 e
theorem C8 {p b:Nat}(g:Pr p) (e:¬ p∣b) (hi:i<p) (f:j<p) (h:b*i%p=b*j%p):i=j:=by
 have a:∀{i j:Nat},i<p->b*i%p=b*j%p->¬ j<i:=λ{i j} hi h k=>by
  have:=gR h;rw[<-Nat.mul_sub] at this;rcases g.dvd_mul (bO this) with q|q
  ·exact e q
  ·exact qi (by exact mU k) (by exact iI hi) q
 have c:=a hi h;have d:=a f h.symm;exact z427 c d
theorem A7 {p b:Nat}(f:Pr p) (h:¬ p∣b):b^(p-1)%p=1:=by
 have n:=f.1;have a:((upto p).map λi=>b*i%p).Perm (upto p):=by
  refine xD (uY Gr λx c y o e=>C8 f h (pC.mp c).2 (pC.mp o).2 e) (λx c=>?_) (by simp);refine aK (yh c) λi hi g=>?_;subst g;refine c7 (pC.mp hi) λr m=>?_;refine pC.mpr ⟨?_,Nat.mod_lt _ (by exact cU m)⟩;rcases fZ (b*i%p) with e|e
  ·rcases f.dvd_mul (bO e) with q|q
   ·exact absurd q h
   ·exact absurd q (qi r m)
  ·exact e
 have e:=zB b p (upto p);rw[Gl a,yI] at e;have off:¬ p∣nT (upto p):=yA f _ λx c=>qi (pC.mp c).1 (pC.mp c).2;have j:1<=b:=eD λz=>h (z▸Nat.dvd_zero p);have l:1<=b^(p-1):=Nat.pow_pos j;have d:=gR e.symm;rw[show b^(p-1)*nT (upto p)-nT (upto p)=(b^(p-1)-1)*nT (upto p) by rw[Nat.sub_mul,ji]] at d;rcases f.dvd_mul (bO d) with⟨k,q⟩|q
 ·rw[show b^(p-1)=1+p*k by exact(Nat.sub_eq_iff_eq_add' l).mp q,Nat.add_mul_mod_self_left];exact gI n
 ·exact absurd q off
theorem Dp {n b:Nat}(a:1<b) (e:b<n-1) (h:b*b%n=1):¬ Pr n:=λf=>by
 have g:=f.1;have d:(b*b-1)%n=0:=by
  have:b*b%n=1%n:=by rw[h,gI g]
  exact gR this
 obtain⟨c,rfl⟩:∃c,b=c+1:=⟨b-1,by exact z428 a⟩;rw[show(c+1)*(c+1)=c*(c+2)+1 by rw[Nat.add_mul,Nat.mul_add c c 1,Nat.mul_add c c 2];exact z429,fj] at d;rcases f.dvd_mul (bO d) with q|q
 ·exact qi (by exact cq a) (by exact z430 e) q
 ·exact qi (by exact z431) (by exact Nat.succ_lt_of_lt_pred e) q
theorem Fb {n b:Nat}(a:1<=b) (c:b<n) (h:b^(n-1)%n≠1):¬ Pr n:=λd=>h (A7 d (qi a c))
theorem ES {n a b:Nat}(e:2<=a) (c:2<=b) (h:a*b=n):¬ Pr n:=λd=>by have:a*2<=a*b:=g8 a c;rcases d.2 a ⟨b,h.symm⟩ with q|q<;>lia
theorem zz {n b a c:Nat}(d:b^a%n=1%n):b^(a*c)%n=1%n:=by rw[Nat.pow_mul,nv,d,<-nv,Nat.one_pow]
theorem Dd {n b:Nat}(h:1<n):∀(a c:Nat),b^a%n=1%n->b^c%n=1%n->b^mC a c%n=1%n:=λa=>by
 induction a using Nat.strongRecOn with
 | ind a ih =>
  intro c d f;rcases fZ a with rfl|g
  ·rw[Nat.gcd_zero_left];exact f
  ·rw[Nat.gcd_rec];refine ih (c%a) (Nat.mod_lt _ g) a ?_ d;have e:b^c%n=b^(c%a)%n:=by conv=>lhs;rw[<-k9 c a,jg,dj,zz d,<-dj,ji]
   rw[<-e];exact f
theorem zY {n b:Nat}(t:1<n) (C:b^(n-1)%n=1) (S:∀q,Pr q->q∣n-1->b^((n-1)/q)%n≠1):Pr n:=by
 have one:1%n=1:=gI t;rcases cN n 3 with D|D
 ·have:n=2:=by exact dZ t D
  subst this;exact pM.mp (by decide)
 -- no smaller power is one
 have h:∀m,0<m->m<n-1->b^m%n≠1:=λm K U e=>by
  have g:=Dd t m (n-1) (by rw[e,one]) (by rw[C,one]);have B:=Nat.gcd_dvd_right m (n-1);have gl:mC m (n-1)<=m:=eu K (Nat.gcd_dvd_left m (n-1));have R:0<mC m (n-1):=Nat.gcd_pos_of_pos_left _ K;generalize mC m (n-1)=d at g B gl R;refine cG (B) λk a=>?_;clear B;have k2:1<k:=by
   rcases cN 1 k with q|q
   ·exact q
   ·exfalso;have:d*k<=d*1:=g8 d q;exact z432 U gl a this
  refine aK (Bw k k2) λq L r=>?_;refine cG (r) λj w=>?_;clear r;subst w;refine S q L ⟨d*j,by rw[a,Nat.mul_left_comm]⟩ ?_;have:(n-1)/q=d*j:=by rw[a,Nat.mul_left_comm];exact Nat.mul_div_cancel_left _ (by have:=L.1;exact cU this)
  rw[this,zz g,one]
 -- the powers are all different
 have f:∀k,k<=n-1->b^k*b^(n-1-k)%n=1:=λk a=>by rw[<-jg,bY a,C]
 have o:∀i j,i<j->j<n-1->b^i%n≠b^j%n:=λi j F G e=>by
  refine h (j-i) (by exact Nat.zero_lt_sub_of_lt F) (by exact iI G) ?_;have u:=f i (by exact z433 F G);have J:b^(n-1-i)*b^j%n=1:=by rw[dj,<-e,<-dj,gr];exact u
  have P:b^(n-1-i)*b^j=b^(n-1)*b^(j-i):=by rw[<-jg,<-jg];congr 1;exact z434 F G
  rw[P,dj,C,ji,kT] at J;exact J
 have p:((bG (n-1)).map λk=>b^k%n).Perm (upto n):=by
  refine xD (uY List.nodup_range λx E y T e=>?_) (λx E=>?_) (by simp[yI])
  ·rcases iB x y with q|q|q
   ·exact absurd e (o x y q (ch.mp T))
   ·exact q
   ·exact absurd e.symm (o y x q (ch.mp E))
  ·refine aK (yh E) λk a A=>?_;subst A;have a:=ch.mp a;refine pC.mpr ⟨?_,Nat.mod_lt _ (by exact z435 a)⟩;rcases fZ (b^k%n) with z|z
   ·exfalso;have u:=f k (by exact bw a);rw[dj,z,Nat.zero_mul,Nat.zero_mod] at u;exact z436 u
   ·exact z
 refine⟨t,λd l=>?_⟩;have O:=eu (by exact cU D) l;rcases cN d n with H|Q
 ·have v:1<=d:=eD λz=>by rw[z] at l;have:=l7 l;exact z437 H this
  refine aK (yh (p.mem_iff.mpr (pC.mpr ⟨v,H⟩))) λk a e=>?_;have u:=f k (by have:=ch.mp a;exact bw this);rw[dj,e] at u;refine cG (l) λc s=>?_;clear l;left;rcases cN c n with I|N
  ·exfalso;have M:0<c:=eD λz=>by rw[z,Nat.mul_zero] at s;exact z438 s I
   have:c*(d*(b^(n-1-k)%n)%n)%n=c%n:=by rw[u,Nat.mul_one]
   rw[dj,kT,<-dj,<-iE,gr c d,<-s,Nat.mul_mod_right,gI I] at this;exact z439 M this
  ·have:1*c<=d*c:=gS c v;rcases cN 1 d with q|q
   ·exfalso;have:2*c<=d*c:=gS c q;exact z440 H s N this
   ·exact Eq.symm (cI v q)
 ·right;exact cI O Q
end
section
theorem u_ {q:Nat}(b:Pr q):∀{ps:List (Int×Int)},(∀p∈ps,0<=p.1)->(q:Int)∣gA ps->∃p∈ps,q∣p.1.toNat
 | [],_,h=>by have h:(q:Int)∣((1:Nat):Int):=h;have:=eu jh (e_.mp h);have:=b.1;lia
 | p::r,h0,h=>by
  refine cG (aV (h0 p (by simp))) λm g=>?_;obtain⟨k,c⟩:∃k:Nat,gA r=k:=by
   have:∀{l:List (Int×Int)},(∀p∈l,0<=p.1)->0<=gA l:=λ{l} f=>by
    induction l with
    | nil=>decide
    | cons x l ih=>exact Int.mul_nonneg (Int.pow_nonneg (f x (by simp))) (ih λy a=>f y (yi _ a))
   exact aV (this λy a=>h0 y (yi _ a))
  have h:(q:Int)∣p.1^p.2.toNat*gA r:=h;rw[c,g,<-Int.natCast_pow,<-fu] at h;rcases b.dvd_mul (e_.mp h) with d|d
  ·exact⟨p,by simp,by rw[g,cx];exact b.dvd_pow d⟩
  ·obtain⟨x,i,e⟩:=u_ b (λy a=>h0 y (yi _ a)) (show(q:Int)∣gA r by rw[c];exact e_.mpr d);exact⟨x,yi _ i,e⟩
theorem Gg {k:Nat}{n:Int}{f:Fc}{o:List Int}(y:RoK k n f) (P:∀q∈o,0<=q/\isPB q.toNat=true) (h:f.holds n o=true):f.tells=isPB n.toNat:=by
 refine jA (y) λR C S g=>?_;clear y;refine cG (aV (show 0<=n by exact z231 C)) λN d=>?_;subst d;rw[cx];have no:¬ Pr N->isPB N=false:=λq=>by
  cases e:isPB N with
  | false=>rfl
  | true=>exact absurd (pM.mp e) q
 have l:(N:Int)-1=((N-1:Nat):Int):=by exact z441 C
 cases f with
 | first =>
  have:(N:Int)=2:=of_decide_eq_true h;have:N=2:=by exact Eq.symm ((λ{m n}=>gN.mp) (id (Eq.symm this)))
  subst this;decide
 | split a b =>
  refine fT (g) λc v _=>?_;clear g;refine c7 (c) λu _=>?_;clear c;have h:a*b=N:=of_decide_eq_true h;refine cG (aV (show 0<=a by exact z231 u)) λA d=>?_;subst d;refine cG (aV (show 0<=b by exact z231 v)) λB d=>?_;subst d;rw[no (ES (a:=A) (b:=B) (by exact br.mp u) (by exact br.mp v) (by rw[<-fu] at h;exact gO h))];rfl
 | power b =>
  obtain⟨B,rfl⟩:=aV (show 0<=b by have:=g.1;exact aj this);have h:(decide ((B:Int)<N)&&!decide (pw B ((N:Int)-1) N=1))=true:=h;simp only[aS,decide_eq_true_eq,cT,decide_eq_false_iff_not] at h;rw[l,qj] at h;have j:=g.1;rw[no (Fb (b:=B) (by exact br.mp j) (by exact z442 h) (by exact z443 h))];rfl
 | root b =>
  obtain⟨B,rfl⟩:=aV (show 0<=b by have:=g.1;exact aj this);have h:((decide (1<(B:Int))&&decide ((B:Int)<(N:Int)-1))&&decide ((B:Int)*B%N=1))=true:=h;simp only[aS,decide_eq_true_eq] at h;refine c7 (h) λc w=>?_;clear h;refine c7 (c) λI J=>?_;clear c;rw[<-fu,<-kL] at w;rw[no (Dp (b:=B) (by exact bW.mp I) (by exact z444 J) (by exact Eq.symm ((λ{m n}=>gN.mp) (id (Eq.symm w)))))];rfl
 | prime b ps =>
  refine fT (g) λc s _=>?_;clear g;refine c7 (c) λj _=>?_;clear c;refine cG (aV (show 0<=b by exact aj j)) λB d=>?_;subst d;have h:((ps.all λp=>o.contains p.1)&&(decide (gA ps=(N:Int)-1)&&(decide ((B:Int)<N)&&jV N B ps)))=true:=h;simp only[aS,decide_eq_true_eq,aN,jV,cT,decide_eq_false_iff_not] at h;refine oh (h) λK L M x O=>?_;clear h;rw[l,qj] at x;have E:∀p∈ps,0<=p.1:=λp r=>by have:=s.2.2 p r;exact z445 this
  have:Pr N:=by
   refine zY (b:=B) (by exact z446 j M) (gO x) λq D G e=>?_;obtain⟨p,i,F⟩:=u_ D E (by rw[L,l];exact e_.mpr G);have t:p.1∈o:=by have:=K p i;simpa using this
   have Q:=pM.mp (P p.1 t).2;have H:q=p.1.toNat:=by
    rcases Q.2 q F with z|z
    ·have:=D.1;exact z447 z this
    ·exact z
   refine O p i ?_;rw[l,show p.1=((p.1.toNat:Nat):Int) by have:=E p i;exact gU.mpr this,<-iK,qj,<-H,e];rfl
  rw[pM.mpr this];rfl
end
section
open PySem PySem.W PyProof.Rows
set_option Elab.async false
set_option genSizeOf false
set_option bootstrap.genMatcherCode false
noncomputable def vt:MF:=⟨1,3,
 [.asg 1 (.dic0),
 .forr false [2] .plain [.loc 0] [.ite (.cmp .notIn (.idx (.loc 2) (.n 0)) (.loc 1)) [.sto (.loc 1) (.idx (.loc 2) (.n 0)) (.loc 2)] []],
 .ret (.loc 1)]⟩
noncomputable def rq:MF:=⟨2,6,
 [.asg 2 (.call "by_numbers" [.loc 0]),
 .ite (.cmp .notIn (.loc 1) (.loc 2)) [.raise "NoRow" [.cst (.str "no row of that number")]] [],
 .asg 3 (.dic0),
 .asg 4 (.lst [.loc 1]),
 .whl (.cmp .ne (.loc 4) (.lst [])) [.forr false [5] .plain [.call "needs" [.idx (.loc 2) (.meth .pop (.loc 4) [])]] [.ite (.and2 (.cmp .notIn (.loc 5) (.loc 3)) (.cmp .isin (.loc 5) (.loc 2))) [.sto (.loc 3) (.loc 5) (.cst (.bool true)),
    .expr (.meth .append (.loc 4) [.loc 5])] []]],
 .ret (.bi .sorted [.bi .list [.loc 3]])]⟩
noncomputable def qJ (R_stands_on:Rais):MF:=⟨2,3,
 [.orX (.asg 2 (.bin .add (.call "stands_on" [.loc 0,.loc 1]) (.lst [.loc 1]))) [.loc 0,.loc 1] R_stands_on,
 .ret (.bi .tuple [.comp false 1 (.loc 3) .plain [.loc 0] [.cmp .isin (.idx (.loc 3) (.n 0)) (.loc 2)]])]⟩
noncomputable def y4 (R_put:mL) (hd1:Str->Option (List Str)):MF:=⟨2,3,
 [.tryM [2] (.loc 0) [.loc 1] R_put hd1]⟩
noncomputable def zn (R_drop:mL) (hd1:Str->Option (List Str)):MF:=⟨2,3,
 [.tryM [2] (.loc 0) [.loc 1] R_drop hd1]⟩
noncomputable def zo (R_slip:mL) (hd1:Str->Option (List Str)):MF:=⟨2,3,
 [.tryM [2] (.loc 0) [.loc 1] R_slip hd1]⟩
noncomputable def vn:MF:=⟨2,2,
 [.ret (.comp false 1 (.loc 2) .keys [.loc 0] [.cmp .isin (.loc 1) (.call "_law_needs" [.idx (.loc 0) (.loc 2)])])]⟩
noncomputable def u7:MF:=⟨2,5,
 [.ite (.cmp .notIn (.loc 1) (.loc 0)) [.ret (.lst [.cst (.str "NoRow")])] [],
 .asg 2 (.lst [.loc 1]),
 .asg 3 (.lst [.loc 1]),
 .whl (.cmp .gt (.bi .len [.loc 3]) (.n 0)) [.forr false [4] .plain [.call "_law_needs" [.idx (.loc 0) (.meth .pop (.loc 3) [])]] [.ite (.cmp .notIn (.loc 4) (.loc 2)) [.expr (.meth .append (.loc 2) [.loc 4]),
    .expr (.meth .append (.loc 3) [.loc 4])] []]],
 .ret (.tup [.bi .tuple [.comp false 1 (.idx (.loc 0) (.loc 5)) .plain [.bi .sorted [.loc 2]] []]])]⟩
noncomputable def vC:MF:=⟨2,4,
 [.ite (.or2 (.not (.isi (.loc 1) .tuple)) (.or2 (.cmp .eq (.bi .len [.loc 1]) (.n 0)) (.cmp .isNot (.call "_law_wrong" [.loc 1]) (.cst .none)))) [.ret (.lst [.cst (.str "NotHeld")])] [],
 .asg 2 (.lst []),
 .forr false [3] .plain [.loc 1] [.ite (.cmp .notIn (.idx (.loc 3) (.n 0)) (.loc 0)) [.sto (.loc 0) (.idx (.loc 3) (.n 0)) (.loc 3),
   .expr (.meth .append (.loc 2) [.idx (.loc 3) (.n 0)])] []],
 .ret (.tup [.loc 2])]⟩
noncomputable def vE:MF:=⟨2,2,
 [.ite (.cmp .notIn (.loc 1) (.loc 0)) [.ret (.lst [.cst (.str "NoRow")])] [],
 .ite (.cmp .ne (.call "_law_users" [.loc 0,.loc 1]) (.lst [])) [.ret (.lst [.cst (.str "Needed")])] [],
 .expr (.dpop (.loc 0) (.loc 1)),
 .ret (.tup [.cst .none])]⟩
noncomputable def vg:MF:=⟨4,7,
 [.forr false [4] .plain [.idx (.lst [.lst [.n 0,.n 1,.n 2],.lst [.n 2,.n 1,.n 0],.lst [.n 1,.n 0,.n 2],.lst [.n 1,.n 2,.n 0]]) (.bin .mod (.loc 3) (.n 4))] [.ite (.cmp .eq (.loc 4) (.n 0)) [.asg 5 (.mcl "Shelf.numbers" (.loc 0) []),
   .ite (.or2 (.not (.isi (.loc 5) .list)) (.cmp .ne (.loc 5) (.bi .sorted [.loc 1]))) [.ret (.cst (.bool false))] [],
   .expr (.meth .append (.loc 5) [.n 1])] [.ite (.cmp .eq (.loc 4) (.n 1)) [.asg 6 (.cst .none),
    .ite (.cmp .isin (.loc 2) (.loc 1)) [.asg 6 (.idx (.lst [.cst (.str "parted"),.cst (.str "prime")]) (.bi .int [.call "_law_tells" [.idx (.loc 1) (.loc 2)]]))] [],
    .ite (.cmp .ne (.mcl "Shelf.told" (.loc 0) [.loc 2]) (.loc 6)) [.ret (.cst (.bool false))] []] [.asg 5 (.call "_law_slip" [.loc 0,.loc 2]),
    .ite (.cmp .ne (.loc 5) (.call "_law_part" [.loc 1,.loc 2])) [.ret (.cst (.bool false))] [],
    .ite (.and2 (.isi (.loc 5) .tuple) (.not (.call "lets_by" [.idx (.loc 5) (.n 0)]))) [.ret (.cst (.bool false))] []]]],
 .ret (.cst (.bool true))]⟩
noncomputable def vv:MF:=⟨2,3,
 [.forr false [2] .plain [.bi .sorted [.loc 1]] [.ite (.and2 (.cmp .lt (.loc 2) (.n 1000)) (.cmp .ne (.cmp .eq (.mcl "Shelf.told" (.loc 0) [.loc 2]) (.cst (.str "prime"))) (.call "_law_is_prime" [.loc 2]))) [.ret (.cst (.bool false))] []],
 .ret (.cst (.bool true))]⟩
noncomputable def vm:MF:=⟨1,2,
 [.asg 1 (.call "_law_rows_by" [.loc 0]),
 .ite (.cmp .eq (.bin .mod (.idx (.loc 0) (.n 8)) (.n 4)) (.n 1)) [.ret (.bi .tuple [.call "_law_spoilt" [.loc 1,.bin .fdiv (.idx (.loc 0) (.n 8)) (.n 4),.idx (.loc 0) (.n 9)]])] [],
 .ite (.cmp .eq (.bin .mod (.idx (.loc 0) (.n 8)) (.n 16)) (.n 2)) [.ret (.idx (.lst [.loc 1,.tup [],.cst .none,.cst (.str ""),.n 7,.cst (.bool true)]) (.bin .mod (.bin .fdiv (.idx (.loc 0) (.n 8)) (.n 16)) (.n 6)))] [],
 .ret (.bi .tuple [.loc 1])]⟩
noncomputable def u8:MF:=⟨2,3,
 [.asg 2 (.bi .sorted [.loc 0]),
 .ite (.or2 (.cmp .eq (.bi .len [.loc 2]) (.n 0)) (.cmp .eq (.bin .mod (.loc 1) (.n 5)) (.n 0))) [.ret (.bin .add (.n 2) (.bin .mod (.bin .fdiv (.loc 1) (.n 5)) (.n 400)))] [],
 .ret (.idx (.loc 2) (.bin .mod (.bin .fdiv (.loc 1) (.n 5)) (.bi .len [.loc 2])))]⟩
noncomputable def rj:MF:=⟨3,10,
 [.ite (.cmp .lt (.bin .mod (.idx (.loc 2) (.n 10)) (.n 5)) (.n 2)) [.asg 3 (.call "_law_thing" [.loc 2]),
  .asg 4 (.call "_law_put_due" [.loc 1,.loc 3]),
  .asg 5 (.call "_law_put" [.loc 0,.loc 3]),
  .ite (.cmp .ne (.loc 5) (.loc 4)) [.ret (.cst (.bool false))] [],
  .ite (.and2 (.isi (.loc 5) .tuple) (.isi (.idx (.loc 5) (.n 0)) .list)) [.expr (.meth .append (.idx (.loc 5) (.n 0)) [.n 0])] [],
  .ret (.cmp .eq (.call "_law_put" [.loc 0,.loc 3]) (.call "_law_put_due" [.loc 1,.loc 3]))] [],
 .asg 6 (.call "_law_some" [.loc 1,.idx (.loc 2) (.n 11)]),
 .asg 7 (.call "_law_users" [.loc 1,.loc 6]),
 .ite (.cmp .ne (.call "_law_drop" [.loc 0,.loc 6]) (.call "_law_drop_due" [.loc 1,.loc 6])) [.ret (.cst (.bool false))] [],
 .forr false [8] .plain [.slc (.loc 7) [] [.n 2]] [.ite (.cmp .ne (.call "_law_drop" [.loc 0,.loc 8]) (.call "_law_drop_due" [.loc 1,.loc 8])) [.ret (.cst (.bool false))] []],
 .asg 9 (.call "_law_part" [.loc 1,.loc 6]),
 .ite (.cmp .ne (.call "_law_drop" [.loc 0,.loc 6]) (.call "_law_drop_due" [.loc 1,.loc 6])) [.ret (.cst (.bool false))] [],
 .ite (.or2 (.cmp .eq (.bin .mod (.idx (.loc 2) (.n 13)) (.n 3)) (.n 1)) (.not (.isi (.loc 9) .tuple))) [.ret (.cst (.bool true))] [],
 .ite (.cmp .ne (.call "_law_put" [.loc 0,.idx (.loc 9) (.n 0)]) (.call "_law_put_due" [.loc 1,.idx (.loc 9) (.n 0)])) [.ret (.cst (.bool false))] [],
 .ret (.or2 (.cmp .eq (.bin .mod (.idx (.loc 2) (.n 13)) (.n 3)) (.n 2)) (.cmp .eq (.call "_law_drop" [.loc 0,.loc 6]) (.call "_law_drop_due" [.loc 1,.loc 6])))]⟩
noncomputable def rQ:MF:=⟨1,8,
 [.asg 2 (.lst [.dic0,.dic0]),
 .asg 3 (.call "_law_rows_by" [.call "_law_mixed" [.loc 0,.n 0,.n 12]]),
 .expr (.mcl "Shelf.put" (.idx (.loc 1) (.n 0)) [.bi .tuple [.loc 3]]),
 .expr (.call "_law_put_due" [.idx (.loc 2) (.n 0),.bi .tuple [.loc 3]]),
 .forr false [4] .plain [.slc (.loc 0) [.n 12] [.n 17]] [.asg 5 (.call "_law_mixed" [.lst [.loc 4],.n 0,.n 14]),
  .asg 6 (.bin .mod (.idx (.loc 5) (.n 12)) (.n 2)),
  .ite (.not (.call "_law_deed" [.idx (.loc 1) (.loc 6),.idx (.loc 2) (.loc 6),.loc 5])) [.ret (.cst (.bool false))] [],
  .forr false [7] .range [.n 2] [.ite (.not (.call "_law_looks" [.idx (.loc 1) (.loc 7),.idx (.loc 2) (.loc 7),.call "_law_some" [.idx (.loc 2) (.loc 7),.bin .fdiv (.idx (.loc 5) (.n 13)) (.bin .add (.n 1) (.loc 7))],.idx (.loc 5) (.n 13)])) [.ret (.cst (.bool false))] []]],
 .ret (.and2 (.call "_law_all_so" [.idx (.loc 1) (.n 0),.idx (.loc 2) (.n 0)]) (.call "_law_all_so" [.idx (.loc 1) (.n 1),.idx (.loc 2) (.n 1)]))]⟩
noncomputable def vd:MF:=⟨2,4,
 [.ite (.not (.call "lets_by" [.loc 1])) [.raise "NotHeld" [.cst (.str "no slip that is let by")]] [],
 .asg 2 (.lst []),
 .forr false [3] .plain [.loc 1] [.ite (.cmp .notIn (.idx (.loc 3) (.n 0)) (.att (.loc 0))) [.sto (.att (.loc 0)) (.idx (.loc 3) (.n 0)) (.loc 3),
   .expr (.meth .append (.loc 2) [.idx (.loc 3) (.n 0)])] []],
 .ret (.loc 2)]⟩
noncomputable def vp:MF:=⟨2,2,
 [.ite (.cmp .notIn (.loc 1) (.att (.loc 0))) [.ret (.cst .none)] [],
 .ite (.call "tells_prime" [.idx (.att (.loc 0)) (.loc 1)]) [.ret (.cst (.str "prime"))] [],
 .ret (.cst (.str "parted"))]⟩
noncomputable def vJ:MF:=⟨1,1,
 [.ret (.bi .sorted [.bi .list [.att (.loc 0)]])]⟩
noncomputable def vI (R_cut:Rais):MF:=⟨2,2,
 [.orX (.ret (.call "cut" [.bi .tuple [.comp false 1 (.idx (.att (.loc 0)) (.loc 2)) .plain [.mcl "Shelf.numbers" (.loc 0) []] []],.loc 1])) [.bi .tuple [.comp false 1 (.idx (.att (.loc 0)) (.loc 2)) .plain [.mcl "Shelf.numbers" (.loc 0) []] []],.loc 1] R_cut]⟩
noncomputable def vH:MF:=⟨2,3,
 [.ite (.cmp .notIn (.loc 1) (.att (.loc 0))) [.raise "NoRow" [.cst (.str "no row of that number")]] [],
 .forX 2 [.mcl "Shelf.numbers" (.loc 0) []] [.ite (.cmp .isin (.loc 1) (.call "needs" [.idx (.att (.loc 0)) (.loc 2)])) [.raise "Needed" [.cst (.str "another row needs it")]] []],
 .expr (.dpop (.att (.loc 0)) (.loc 1))]⟩
end
section
open PySem
theorem g5 {loc:Loc}{Q:PQ}{b:List MS}(k:Nat){s:MS}(c:b[k]?=some s) (h:∀R:PF,(∀v loc H,Q v H->R (.ret v) loc H)->(∀loc H,wpSs Φ (b.drop (k+1)) loc H (i6 Q)->R .next loc H)->wpS Φ s loc H R):wpSs Φ (b.drop k) loc H (i6 Q):=by refine cG (ym c) λa e=>?_;rw[bp a,e,ss_cons];exact h _ (λ_ _ _ q=>q) (λ_ _ q=>q)
theorem lJ {loc:Loc}{Q:PQ}{X:XP}{b:List MS}(k:Nat){s:MS}(d:b[k]?=some s) (h:∀R:PF,(∀v loc H,Q v H->R (.ret v) loc H)->(∀c loc H,X c H->R (.exc c) loc H)->(∀loc H,wpSs Φ (b.drop (k+1)) loc H (endX Q X)->R .next loc H)->wpS Φ s loc H R):wpSs Φ (b.drop k) loc H (endX Q X):=by refine cG (ym d) λa e=>?_;rw[bp a,e,ss_cons];exact h _ (λ_ _ _ q=>q) (λ_ _ _ q=>q) (λ_ _ q=>q)
theorem BF {o o':AObj}:(H++[o]).set H.length o'=H++[o']:=by rw[cR _ _ (az _)];simp
theorem ze {α:Type}{Φ:Fun}{loc:Loc}{H:Hp}{Q:PQ}{t:Bool}{n:Nat}{a:ME}{Cnd:Hp->Prop}(g v:α->AV) (xs:List α) (r:xs.length<=ag) (p:∀H',H<+:H'->Cnd H')
  (c:∀H',H<+:H'->∀x∈xs,∃ws,oq t n (g x)=some ws/\∀Q:PQ,(∀f,H'<+:f->Q (v x) f)->wpE Φ a (loc++ws.map some) H' Q)
  (q:∀H',H<+:H'->Q (.ref H'.length) (H'++[.list (xs.map v)])):p7 Φ t n a [] loc Q (xs.map g) Cnd H:=by
 refine⟨by rw[ya];exact r,λi l H'=>H<+:H'/\l=(xs.take i).map v,⟨kU,by simp⟩,?_⟩;intro i l H' b;refine c7 (b) λd h=>?_;clear b;subst h;refine⟨p H' d,λy m=>?_,λe=>by rw[e,ya,ku];exact q H' d⟩;rw[aq] at m;refine aK (yf m) λx k j=>?_;subst j;refine aK (c H' d x (yc k)) λws s o=>?_;refine⟨ws,s,?_⟩;rw[cs_nil];show wpE Φ a (loc++ws.map some) H' _;refine o _ λf p2=>⟨d.trans p2,?_⟩;rw[cM,k];simp
abbrev Row:=Int×Fc
noncomputable def slA (s:List Row):AV:=.tup (s.map roP)
noncomputable def byR (l:List Row):List (Int×AV):=l.map λr=>(r.1,roP r)
noncomputable def insR (acc:List Row) (r:Row):List Row:=if (dget (byR acc) r.1).isSome then acc else acc++[r]
noncomputable def tV (l:List Row):List Row:=l.foldl insR []
theorem rb (l:List Row):(byR l).map (·.1)=l.map (·.1):=by simp[byR,Function.comp_def]
theorem w0 (l:List Row) (r:Row):byR l++[(r.1,roP r)]=byR (l++[r]):=by simp[byR]
theorem mP {l:List Row}{k:Int}:(dget (byR l) k).isSome=true↔k∈l.map (·.1):=by
 rw[<-rb,eN];constructor
 ·rintro⟨v,hv⟩;exact yo ⟨_,pR hv,rfl⟩
 ·intro h;refine aK (yh h) λe b a=>?_;subst a;exact sG b
theorem Ev {acc:List Row}{r x:Row}(h:x∈insR acc r):x∈acc\/x=r:=by
 unfold insR at h;split at h
 ·exact .inl h
 ·rcases yd h with z|z
  ·exact .inl z
  ·exact .inr (yb z)
theorem C0 {acc:List Row}{r:Row}(h:(acc.map (·.1)).Nodup):((insR acc r).map (·.1)).Nodup:=by
 unfold insR;split
 ·exact h
 ·rename_i f;rw[aQ,dU];refine⟨h,by simp,λa c b d e=>?_⟩;have:b=r.1:=by simpa using d
  subst this;subst e;exact f (mP.mpr c)
theorem Et {acc:List Row}{r:Row}{k:Int}:k∈(insR acc r).map (·.1)↔k∈acc.map (·.1)\/k=r.1:=by
 unfold insR;split
 ·rename_i a;constructor
  ·exact .inl
  ·rintro(z|rfl)
   ·exact z
   ·exact mP.mp a
 ·rw[aQ,iS];simp
theorem Eu {acc:List Row}{r:Row}:(insR acc r).length<=acc.length+1:=by
 unfold insR;split
 ·exact z448
 ·simp
theorem sI:∀{l acc:List Row}{x:Row},x∈l.foldl insR acc->x∈acc\/x∈l
 | [],acc,x,h=>.inl h
 | r::l,acc,x,h=>by
  rcases sI (l:=l) h with z|z
  ·rcases Ev z with y|y
   ·exact .inl y
   ·exact .inr (by rw[y];exact aR ..)
  ·exact .inr (yi _ z)
theorem xh:∀{l acc:List Row},(acc.map (·.1)).Nodup->((l.foldl insR acc).map (·.1)).Nodup
 | [],acc,h=>h
 | r::l,acc,h=>xh (l:=l) (C0 h)
theorem uE:∀{l acc:List Row}{k:Int},k∈(l.foldl insR acc).map (·.1)↔k∈acc.map (·.1)\/k∈l.map (·.1)
 | [],acc,k=>by simp
 | r::l,acc,k=>by rw[iT,uE,Et,aF,cA,or_assoc]
theorem rg:∀{l acc:List Row},(l.foldl insR acc).length<=acc.length+l.length
 | [],acc=>by simp
 | r::l,acc=>by have a:=rg (l:=l) (acc:=insR acc r);have b:=Eu (acc:=acc) (r:=r);simp only[iT,b_];exact z449 a b
noncomputable def ju (F:List Row) (k:Int):Row:=(F.find? λr=>r.1=k).getD (0,.first)
theorem oG {F:List Row}{r:Row}(nd:(F.map (·.1)).Nodup) (h:r∈F):ju F r.1=r:=by
 induction F with
 | nil=>cases h
 | cons x F ih =>
  rw[aF,fo] at nd;unfold ju;rcases yg h with rfl|h
  ·simp
  ·have:¬ x.1=r.1:=λe=>nd.1 (by rw[e];exact yo ⟨r,h,rfl⟩);rw[l9 (by simpa using this)];exact ih nd.2 h
theorem oF {F:List Row}{k:Int}(nd:(F.map (·.1)).Nodup) (h:k∈F.map (·.1)):dget (byR F) k=some (roP (ju F k))/\(ju F k).1=k:=by refine cG (eN.mp (mP.mpr h)) λv hv=>?_;refine aK (yh (pR hv)) λr c e=>?_;have a:r.1=k:=congrArg al e;have b:roP r=v:=congrArg ln e;subst a;rw[oG nd c,hv,b];exact⟨rfl,rfl⟩
theorem uU {F G:List Row}(nd:(F.map (·.1)).Nodup) (h:∀r∈G,r∈F):(G.map (·.1)).map (ju F)=G:=by rw[cE];have:G.map (ju F∘λr=>r.1)=G.map id:=cF λr a=>oG nd (h r a);rw[this,mY]
theorem Bs {F:List Row}{ms:List Int}(nd:(F.map (·.1)).Nodup) (a:ms.Perm (F.map (·.1))) (c:ms.Pairwise (·<=·)):(ms.map (ju F)).Perm F/\((ms.map (ju F)).map (·.1)).Pairwise (·<·):=by
 have e:(ms.map (ju F)).map (·.1)=ms:=by rw[cE];have:ms.map ((λr=>r.1)∘ju F)=ms.map id:=cF λk b=>(oF nd (a.mem_iff.mp b)).2;rw[this,mY]
 refine⟨?_,?_⟩
 ·have:=a.map (ju F)
  rwa [uU nd λr h=>h] at this
 ·rw[e];exact wE c (a.nodup_iff.mpr nd)
theorem wD {a b:List Int}(c:a.Pairwise (·<·)) (d:b.Pairwise (·<·)) (h:∀q,q∈a↔q∈b):a=b:=by
 induction a generalizing b with
 | nil =>
  cases b with
  | nil=>rfl
  | cons y b=>have:=(h y).mpr (by simp);cases this
 | cons x a ih =>
  cases b with
  | nil=>have:=(h x).mp (by simp);cases this
  | cons y b =>
   rw[cy] at c d;have e:x=y:=by
    rcases yg ((h x).mp (by simp)) with z|z
    ·exact z
    ·rcases yg ((h y).mpr (by simp)) with u|u
     ·exact u.symm
     ·exact absurd (d.1 x z) (Int.lt_asymm (c.1 y u))
   subst e;rw[ih c.2 d.2 λq=>?_];constructor
   ·intro z;rcases yg ((h q).mp (yi _ z)) with u|u
    ·exact absurd (c.1 q z) (by rw[u];exact lY _)
    ·exact u
   ·intro z;rcases yg ((h q).mpr (yi _ z)) with u|u
    ·exact absurd (d.1 q z) (by rw[u];exact lY _)
    ·exact u
theorem qp {r:Row}{Q:PQ}(q:Q (.int r.1) H):jT (roP r) (.int 0) H Q:=qO q
def SByT (Φ:Fun):Prop:=∀(l:List Row) (H:Hp) (Q:PQ),l.length<=1000->Q (.ref H.length) (H++[.dict (byR (tV l))])->Φ "by_numbers" [.tup (l.map roP)] H Q
theorem GU {Φ:Fun}{l:List Row}{H:Hp}{Q:PQ}(q:l.length<=1000) (h:Q (.ref H.length) (H++[.dict (byR (tV l))])):wpF Φ vt [.tup (l.map roP)] H Q:=by
 ((refine⟨rfl,?_⟩;simp only[lst,aM,aO,am]))
 show wpSs Φ (vt.body.drop 0) [some (.tup (l.map roP)),none,none] H (i6 Q);refine g5 0 rfl λR rr e=>?_;walk_at"wp";refine e _ _ (g5 1 rfl λR rr e=>?_);walk_at"wp";refine lC (λt loc H'=>∃(o:Option AV),H'=H++[.dict (byR ((l.take t).foldl insR []))]/\loc=[some (.tup (l.map roP)),some (.ref H.length),o]) ⟨none,rfl,rfl⟩ ?_;intro t loc H' c;refine aK (c) λo f a=>?_;clear c;subst f;subst a;refine⟨trivial,λy j=>?_,λn=>?_⟩
 ·rw[aq] at j;refine aK (yf j) λr m a=>?_;subst a;have g:(l.take (t+1)).foldl insR []=insR ((l.take t).foldl insR []) r:=by rw[cM,m,iw];rfl
  have i:=rg (l:=l.take t) (acc:=[]);have s:(l.take t).length<=l.length:=mZ _ _;refine⟨[roP r],rfl,?_⟩;walk_at"wp";refine qp ?_;walk_at"wp";refine oE dG ?_;walk_at"wp";generalize p:(l.take t).foldl insR []=D at i g;refine gC (K:=λb=>oj Φ _ _ _ _ _ (!b)) (λd=>?_) (λd=>?_)
  ·simp only[bC];walk_at"wp";exact jG ⟨_,by rw[g,insR,if_pos d],rfl⟩
  ·simp only[bT];walk_at"wp";refine qp ?_;walk_at"wp";have k:dget (byR D) r.1=none:=by simpa using d
   refine pO dG (by simp[byR];simp at i;lia) ?_;rw[BF,sH k,w0];walk_at"wp";exact jG ⟨_,by rw[g,insR,if_neg (by rw[d];decide)],rfl⟩
 ·have:l.take t=l:=be (by rw[n];simp);rw[this];refine e _ _ (g5 2 rfl λR rr e=>?_);walk_at"wp";exact rr _ _ _ h
end
section
open PySem
theorem x7 {Q:PQ}{a:List Int}(h:H[i]?=some (.list (a.map .int))) (b:a.length<5000) (q:∀ms:List Int,ms.Perm a->ms.Pairwise (·<=·)->Q (.ref H.length) (H++[.list (ms.map .int)])):wpBi .sorted [.ref i] H Q :=
 ⟨a,.inl (by simp[seqL,h]),b,q⟩
theorem uv {Q:PQ}{l:List (Int×AV)}(h:H[i]?=some (.dict l)) (a:l.length<5000) (q:∀ms:List Int,ms.Perm (l.map (·.1))->ms.Pairwise (·<=·)->Q (.ref H.length) (H++[.list (ms.map .int)])):wpBi .sorted [.ref i] H Q :=
 ⟨l.map (·.1),.inr ⟨i,l,rfl,h,rfl⟩,by simpa using a,q⟩
theorem xM {Q:PQ}{l:List (Int×AV)}(h:H[i]?=some (.dict l)) (a:l.length<=1000) (q:Q (.ref H.length) (H++[.list ((l.map (·.1)).map .int)])):wpBi .list [.ref i] H Q:=by
 have:kE (lstL H (.ref i)) λl=>l.length<=ag/\Q (.ref H.length) (H++[.list l]):=by simp only[lstL,h,kE];exact⟨szL (by simp;exact z450 a),q⟩
 exact this
theorem Gm {loc:Loc}{Q:PQ}{F:List Row}{ms:List Int}{a:ME}(e:H[j]?=some (.dict (byR F))) (nd:(F.map (·.1)).Nodup) (b:ms.Perm (F.map (·.1))) (g:F.length<=1000) (f:H[k]?=some (.list (ms.map .int)))
  (d:∀(H':Hp) (x:Int) (Q:PQ),jT (.ref j) (.int x) H' Q->wpE Φ a (loc++[some (.int x)]) H' Q)
  (q:∀H',H<+:H'->Q (.ref H'.length) (H'++[.list ((ms.map (ju F)).map roP)])):p7 Φ false 1 a [] loc Q (ms.map .int) (λH'=>H'[k]?=some (.list (ms.map .int))) H:=by
 have i:ms.length<=1000:=by rw[b.length_eq,ya];exact g
 refine ze AV.int (λx=>roP (ju F x)) ms (szL i) (λH' p=>dJ p f) (λH' p x h=>?_) λH' p=>?_
 ·refine⟨[.int x],rfl,λc l=>d H' x c ?_⟩;rw[oN (dJ p e)];exact⟨_,(oF nd (b.mem_iff.mp h)).1,l H' kU⟩
 ·have:=q H' p;rw[cE] at this;exact this
end
section
open PySem
structure RR (rs:List Row):Prop where
 len:rs.length<=450
 ok:∀r∈rs,RoK 1 r.1 r.2
 inc:(rs.map al).Pairwise (·<·)
 cl:∀r∈rs,∀q∈r.2.needs,∃s∈rs,s.1=q
theorem yY {l:List Row}(h:(l.map al).Nodup):tV l=l:=by
 have a:∀(l acc:List Row),((acc++l).map al).Nodup->l.foldl insR acc=acc++l:=by
  intro l
  induction l with
  | nil=>intro acc _;simp
  | cons r l ih =>
   intro acc h;have b:¬ (dget (byR acc) r.1).isSome=true:=λz=>by have:=mP.mp z;rw[aQ,dU] at h;exact h.2.2 r.1 this r.1 (by simp) rfl
   rw[iT,insR,if_neg b,ih (acc++[r]) (by simpa using h)];simp
 exact a l [] (by simpa using h)
theorem RR.nd {rs:List Row}(h:RR rs):(rs.map al).Nodup:=h.inc.imp λ{a b} z=>dF z
theorem wC {K:Bool->Prop}{l:List (Int×AV)}{k:Int}(h:H[i]?=some (.dict l)) (q:K (dget l k).isSome):wpIn (.int k) (.ref i) H K:=by simp only[wpIn,h];exact⟨k,rfl,q⟩
theorem C9 {rs:List Row}(h:(rs.map al).Pairwise (·<·)):∀{r s:Row},r∈rs->s∈rs->r.1=s.1->r=s:=by
 induction rs with
 | nil=>intro r s c;cases c
 | cons x rs ih =>
  intro r s c d e;rw[aF,cy] at h;rcases yg c with b|b
  ·rcases yg d with a|a
   ·rw[b,a]
   ·have:=h.1 s.1 (yo ⟨s,a,rfl⟩);rw[b] at e;lia
  ·rcases yg d with a|a
   ·have:=h.1 r.1 (yo ⟨r,b,rfl⟩);rw[a] at e;lia
   ·exact ih h.2 b a e
theorem Bc {rs:List Row}(h:(rs.map al).Pairwise (·<·)){r:Row}(c:r∈rs):dget (byR rs) r.1=some (roP r):=by have nd:(rs.map (·.1)).Nodup:=h.imp λ{a b} z=>dF z;rw[(oF nd (yo ⟨r,c,rfl⟩)).1,oG nd c]
theorem tO {rs:List Row}:(dget (byR rs) q).isSome=true↔q∈rs.map al:=mP
inductive Rch (rs:List Row):Int->Int->Prop
 | one {r:Row}{q:Int}:r∈rs->q∈r.2.needs->Rch rs r.1 q
 | more {n:Int}{r:Row}{q:Int}:Rch rs n r.1->r∈rs->q∈r.2.needs->Rch rs n q
structure Seek (rs:List Row) (n:Int) (F W:List Int):Prop where
 rch:∀q∈F,Rch rs n q
 num:∀q∈F,q∈rs.map al
 wait:∀w∈W,w=n\/w∈F
 done:∀r∈rs,(r.1=n\/r.1∈F)->r.1∈W\/∀q∈r.2.needs,q∈F
 nd:F.Nodup
theorem Seek.all {rs:List Row}{n:Int}{F:List Int}(h:Seek rs n F [])(r:Rch rs n q):q∈F:=by
 induction r with
 | one hr hq =>
  rcases h.done _ hr (.inl rfl) with z|z
  ·cases z
  ·exact z _ hq
 | more _ hr hq ih =>
  rcases h.done _ hr (.inr (ih h)) with z|z
  ·cases z
  ·exact z _ hq
theorem Seek.start {rs:List Row}{n:Int}:Seek rs n [] [n] :=
 ⟨(λq z=>by cases z),(λq z=>by cases z),λw a=>.inl (yb a),λr b z=>.inl (z.elim (λz=>yn z) λz=>by cases z),eV⟩
theorem sM:∀{F L:List Int},F.Nodup->(∀q∈F,q∈L)->F.length<=L.length
 | [],_,_,_=>cX _
 | x::F,L,nd,h=>by rw[fo] at nd;have c:=h x (by simp);have a:=sM nd.2 (L:=L.erase x) (λq b=>(mX (λ(e:q=x)=>nd.1 (e▸b))).mpr (h q (yi _ b)));rw[lN c] at a;have:=l8 c;simp only[b_];exact jp this a
theorem Seek.len {rs:List Row}{n:Int}{F W:List Int}(h:Seek rs n F W):F.length<=rs.length:=by
 have:=sM h.nd h.num
 rwa [ya] at this
structure SeekIn (rs:List Row) (n:Int) (r:Row) (t:Nat) (F W:List Int):Prop where
 rch:∀q∈F,Rch rs n q
 num:∀q∈F,q∈rs.map al
 wait:∀w∈W,w=n\/w∈F
 done:∀s∈rs,s≠r->(s.1=n\/s.1∈F)->s.1∈W\/∀q∈s.2.needs,q∈F
 nd:F.Nodup
 part:∀q∈r.2.needs.take t,q∈F
 here:r∈rs/\(r.1=n\/r.1∈F)
theorem Seek.pop {rs:List Row}(d:RR rs){n:Int}{F W:List Int}{w:Int}(h:Seek rs n F (W++[w])) (g:n∈rs.map al):∃r,r∈rs/\r.1=w/\SeekIn rs n r 0 F W:=by
 have a:=h.wait w (by simp);have:w∈rs.map al:=by
  rcases a with e|e
  ·rw[e];exact g
  ·exact h.num w e
 refine aK (yh this) λr c b=>?_;subst b;refine⟨r,c,rfl,h.rch,h.num,λw a=>h.wait w (eO _ a),λs f ne z=>?_,h.nd,λq i=>by simp at i,c,a⟩;rcases h.done s f z with y|y
 ·rcases yd y with y|y
  ·exact .inl y
  ·exact absurd (C9 d.inc f c (yb y)) ne
 ·exact .inr y
theorem SeekIn.old {rs:List Row}{n:Int}{r:Row}{F W:List Int}(h:SeekIn rs n r t F W)(c:r.2.needs[t]?=some q) (b:q∈F):SeekIn rs n r (t+1) F W :=
 ⟨h.rch,h.num,h.wait,h.done,h.nd,λx a=>by
   rw[cM,c] at a;rcases yd a with z|z
   ·exact h.part x z
   ·rw[show x=q by simpa using z];exact b,h.here⟩
theorem SeekIn.new {rs:List Row}(i:RR rs){n:Int}{r:Row}{F W:List Int}(h:SeekIn rs n r t F W)(d:r.2.needs[t]?=some q) (m:q∉F):SeekIn rs n r (t+1) (F++[q]) (W++[q]):=by
 have g:=yc d;refine aK (i.cl r h.here.1 q g) λs o f=>?_;subst f;have l:∀{x},x∈F->x∈F++[s.1]:=λz=>eO _ z;refine⟨λx c=>?_,λx c=>?_,λx c=>?_,λu p ne z=>?_,?_,λx c=>?_,h.here.1,h.here.2.imp id l⟩
 ·rcases yd c with z|z
  ·exact h.rch x z
  ·rw[yb z];rcases h.here.2 with e|e
   ·rw[<-e];exact .one h.here.1 g
   ·exact .more (h.rch _ e) h.here.1 g
 ·rcases yd c with z|z
  ·exact h.num x z
  ·rw[yb z];exact yo ⟨s,o,rfl⟩
 ·rcases yd c with z|z
  ·exact(h.wait x z).imp id l
  ·exact .inr (eF _ z)
 ·by_cases e:u.1∈[s.1]
  ·exact .inl (eF _ e)
  ·have v:u.1=n\/u.1∈F:=z.imp id λy=>(yd y).resolve_right e;rcases h.done u p ne v with y|y
   ·exact .inl (eO _ y)
   ·exact .inr λq d=>l (y q d)
 ·rw[dU];exact⟨h.nd,by simp,λa j b k e=>m (by rw[yb k] at e;exact e▸j)⟩
 ·rw[cM,d] at c;rcases yd c with z|z
  ·exact l (h.part x z)
  ·exact eF _ (by simpa using z)
theorem SeekIn.fin {rs:List Row}{n:Int}{r:Row}{F W:List Int}(h:SeekIn rs n r t F W) (b:r.2.needs.length<=t):Seek rs n F W :=
 ⟨h.rch,h.num,h.wait,λs a z=>by
  by_cases e:s=r
  ·subst e;right;have:=h.part;rw[be b] at this;exact this
  ·exact h.done s a e z,h.nd⟩
theorem SeekIn.len {rs:List Row}{n:Int}{r:Row}{F W:List Int}(h:SeekIn rs n r t F W):F.length<=rs.length:=by
 have:=sM h.nd h.num
 rwa [ya] at this
theorem uL {H:Hp}{i:Nat}{l:List Int}(h:H[i]?=some (.list (l.map .int))):dat H (.ref i)=some (.list (l.map .int)):=by
 show rho H 4 i=_;have:datRs (rho H 3) (l.map .int)=some (l.map .int):=by
  clear h
  induction l with
  | nil=>rfl
  | cons x r ih=>simp only[aF,datRs,datR,ih,fH,dT]
 unfold rho;rw[h];simp only[this,dT]
theorem uM:∀{a b:List Int},cP (a.map .int) (b.map .int)=decide (a=b)
 | [],[]=>rfl
 | [],y::b=>rfl
 | x::a,[]=>rfl
 | x::a,y::b=>by simp only[aF,cP,bu,uM];rw[gY];simp
theorem Fx {l:List Int}:(PyData.list (l.map .int)).depth<=100:=by
 have:bo (l.map mQ)<=1:=by
  induction l with
  | nil=>simp[bo]
  | cons x r ih=>simp only[aF,bo,bS];exact String.Pos.Raw.mk_le_mk.mp ih
 simp only[bS];exact z451 this
theorem ut {Q:PQ}{a b:List Int}(hi:H[i]?=some (.list (a.map .int))) (c:H[j]?=some (.list (b.map .int))) (q:Q (.bool !decide (a=b)) H):kt .ne (.ref i) (.ref j) H Q :=
 ⟨_,_,uL hi,uL c,Fx,by show Q (.bool !PyData.eqvAll _ _) H;rw[uM];exact q⟩
noncomputable def fdD (F:List Int):List (Int×AV):=F.map λq=>(q,.bool true)
theorem xf {F:List Int}{q:Int}:(dget (fdD F) q).isSome=F.contains q:=by rw[gY,eN,<-yL];simp[fdD,Function.comp_def]
theorem CD {F:List Int}(h:q∉F):dset (fdD F) q (.bool true)=fdD (F++[q]):=by
 rw[sH]
 ·simp[fdD]
 ·cases e:dget (fdD F) q with
  | none=>rfl
  | some v =>
   have:=@xf F q;rw[e] at this;exact absurd (by simpa using this.symm) h
theorem Ga {Φ:Fun}(cn:pc "needs" Φ){rs:List Row}{n:Int}{U:AV}{o5:Option AV}{H H0:Hp}{R:PF}{o i c:Nat}{F W:List Int}(g:RR rs) (hn:n∈rs.map al) (i1:H0.length<=i) (i2:H0.length<=c) (B:i≠c) (S:o≠i) (I:o≠c)
  (sk:Seek rs n F W) (Y:W≠[]) (p:H0<+:H) (gb:H[o]?=some (.dict (byR rs))) (gf:H[i]?=some (.dict (fdD F))) (X:H[c]?=some (.list (W.map .int))) (wl:W.length<=460)
  (h:∀d j u H',Seek rs n d j->rs.length-d.length+j.length<rs.length-F.length+W.length->H0<+:H'->H'[o]?=some (.dict (byR rs))->H'[i]?=some (.dict (fdD d))->H'[c]?=some (.list (j.map .int))->R .next [some U,some (.int n),some (.ref o),some (.ref i),some (.ref c),u] H') :
  wpS Φ (.forr false [5] .plain [.call "needs" [.idx (.loc 2) (.meth .pop (.loc 4) [])]] [.ite (.and2 (.cmp .notIn (.loc 5) (.loc 3)) (.cmp .isin (.loc 5) (.loc 2))) [.sto (.loc 3) (.loc 5) (.cst (.bool true)),
    .expr (.meth .append (.loc 4) [.loc 5])] []]) [some U,some (.int n),some (.ref o),some (.ref i),some (.ref c),o5] H R:=by
 obtain⟨j,x,rfl⟩:∃j x,W=j++[x]:=⟨W.dropLast,W.getLast Y,(fp Y).symm⟩;refine eT (sk.pop g hn) λr Q w si=>?_;subst w;have hl:=g.len;have fl:=sk.len;have f:H[c]?=some (.list (j.map .int++[.int r.1])):=by rw[X];simp
 rw[aC,fv] at wl;walk_at"wp";refine⟨mr f,?_⟩;refine tZ f (by rw[ya];exact z452 wl) ?_;generalize m:H.set c (.list (j.map .int))=v;have C:v[o]?=some (.dict (byR rs)):=by rw[<-m,i7 (Ne.symm I)];exact gb
 have D:v[i]?=some (.dict (fdD F)):=by rw[<-m,i7 (Ne.symm B)];exact gf
 have E:v[c]?=some (.list (j.map .int)):=by rw[<-m];exact lS X
 have p1:H0<+:v:=by rw[<-m];exact lU p i2
 have V:c<v.length:=(ym E).1;have N:i<v.length:=(ym D).1;walk_at"wp";rw[oN C];refine⟨_,Bc g.inc Q,?_⟩;walk_at"wp";refine cn 1 r.1 r.2 v _ (g.ok r Q) ?_;walk_at"wp";rw[oB dG];refine lC (λt loc H'=>∃(d a:List Int) (u:Option AV),SeekIn rs n r t d a/\d.length+j.length=F.length+a.length/\H0<+:H'/\H'[o]?=some (.dict (byR rs))/\H'[i]?=some (.dict (fdD d))/\H'[c]?=some (.list (a.map .int))/\H'[v.length]?=some (.list (r.2.needs.map .int)) /\
  loc=[some U,some (.int n),some (.ref o),some (.ref i),some (.ref c),u]) ⟨F,j,o5,si,rfl,p1.trans bR,dJ bR C,dJ bR D,dJ bR E,dG,rfl⟩ ?_
 intro t loc H' G;refine lG (G) λd a u s' L T l J=>?_;clear G;refine jA (J) λk f A M=>?_;clear J;subst M;have z:=s'.len;refine⟨A,λy hy=>?_,λht=>?_⟩
 ·rw[aq] at hy;refine aK (yf hy) λq P w=>?_;subst w;have qn:q∈rs.map al:=by refine aK (g.cl r Q q (yc P)) λs hs e=>?_;exact yo ⟨s,hs,e⟩
  refine⟨[.int q],rfl,?_⟩;walk_at"wp";refine oE k ?_;rw[xf];walk_at"wp";refine gC (K:=λb=>pY Φ _ _ _ _ (!b)) (λe=>?_) (λe=>?_)
  ·simp only[bC];walk_at"wp";exact jG ⟨d,a,_,s'.old P (by simpa using e),L,T,l,k,f,A,rfl⟩
  ·simp only[bT];have Z:q∉d:=by simpa using e
   walk_at"wp";refine wC (K:=λb=>kIte Φ _ _ _ _ (.bool b) _) l ?_;rw[tO.mpr qn];walk_at"wp";refine pO k (by simp[fdD];exact z453 hl z) ?_;rw[CD Z];have O:(H'.set i (.dict (fdD (d++[q]))))[c]?=some (.list (a.map .int)):=by rw[i7 B];exact f
   walk_at"wp";refine⟨mr O,?_⟩;refine pe O (by rw[ya];exact z454 wl hl L z) ?_;walk_at"wp";refine jG ⟨d++[q],a++[q],_,s'.new g P Z,by simp;exact z455 L,lU (lU T i1) i2,?_,?_,?_,?_,rfl⟩
   ·rw[i7 (Ne.symm I),i7 (Ne.symm S)];exact l
   ·rw[i7 (Ne.symm B)];exact lS k
   ·rw[lS O];simp
   ·rw[i7 (by exact bM V),i7 (by exact bM N)];exact A
 ·refine h d a _ H' (s'.fin (by rw[ht];simp)) ?_ T l k f;simp only[aC,fv];exact z456 L z
def Und (rs:List Row) (n:Int) (ms:List Int):Prop:=∃F,Seek rs n F []/\ms.Perm F/\ms.Pairwise (·<=·)
def xc (Φ:Fun):Prop:=∀(rs:List Row) (n:Int) (H:Hp) (Q:PQ),RR rs->n∈rs.map al->(∀ms H' j,Und rs n ms->H<+:H'->H.length<=j->H'[j]?=some (.list (ms.map .int))->Q (.ref j) H')->Φ "stands_on" [.tup (rs.map roP),.int n] H Q
theorem stands_on {Φ:Fun}(M:SByT Φ) (N:pc "needs" Φ){rs:List Row}{n:Int}{H:Hp}{Q:PQ}(f:RR rs) (D:n∈rs.map al) (h:∀ms H' j,Und rs n ms->H<+:H'->H.length<=j->H'[j]?=some (.list (ms.map .int))->Q (.ref j) H') :
  wpFX Φ rq [.tup (rs.map roP),.int n] H Q XF:=by
 have m:=f.len;refine⟨rfl,?_⟩;show wpSs Φ (rq.body.drop 0) [some (.tup (rs.map roP)),some (.int n),none,none,none,none] H (endX Q XF);refine lJ 0 rfl λR rr rx a=>?_;walk_at"wp";refine M rs H _ (by exact z457 m) ?_;rw[yY f.nd];walk_at"wp";refine a _ _ (lJ 1 rfl λR rr rx a=>?_);walk_at"wp";refine oE dG ?_;rw[tO.mpr D];simp only[bC];walk_at"wp";refine a _ _ (lJ 2 rfl λR rr rx a=>?_);walk_at"wp";refine a _ _ (lJ 3 rfl λR rr rx a=>?_);walk_at"wp";refine⟨ye rfl,?_⟩;generalize d:H++[AObj.dict (byR rs)]=c;have o:c.length=H.length+1:=by rw[<-d];simp
 have u:c[H.length]?=some (.dict (byR rs)):=by rw[<-d];exact dG
 have p1:H<+:c:=by rw[<-d];exact bR
 generalize e:c++[AObj.dict []]=g;have z:g.length=c.length+1:=by rw[<-e];simp
 have w:g[c.length]?=some (.dict (fdD [])):=by rw[<-e];exact dG
 have p2:c<+:g:=by rw[<-e];exact bR
 refine a _ _ (lJ 4 rfl λR rr rx a=>?_);refine oy (λt loc H'=>∃(F W:List Int) (G:Option AV),Seek rs n F W/\rs.length-F.length+W.length=t/\t<=rs.length+1/\H<+:H'/\H'[H.length]?=some (.dict (byR rs))/\H'[c.length]?=some (.dict (fdD F))/\H'[g.length]?=some (.list (W.map .int)) /\
  loc=[some (.tup (rs.map roP)),some (.int n),some (.ref H.length),some (.ref c.length),some (.ref g.length),G]) _ ⟨[],[n],none,Seek.start,rfl,by simp,(p1.trans p2).trans bR,dJ (p2.trans bR) u,dJ bR w,dG,rfl⟩ ?_
 intro t loc H' i;refine lG (i) λF W G sk r wl p k=>?_;clear i;refine jA (k) λgb B C q=>?_;clear k;subst q;have A:=sk.len;walk_at"wp";refine⟨by decide,?_⟩;refine ut (b:=[]) (dJ bR C) dG ?_;refine oY (K:=λb=>kWhl Φ _ _ _ _ _ (.bool b) _) (λy=>?_) (λy=>?_)
 ·simp only[k_whl,k_whlt,ss_cons];refine Ga (H0:=H) N f D (by exact kg (id (Eq.symm o))) (by exact z458 o z) (by exact z459 z) (by exact z459 o) (by exact z460 o z) sk y (p.trans bR) (dJ bR gb) (dJ bR B) (dJ bR C) (by exact z461 m r wl) λI L U J l E V s v x=>?_;have P:=l.len;simp only[thenS_next,ss_nil];exact nX _ (by exact eE E r) ⟨I,L,_,l,rfl,by exact z462 r wl E,V,s,v,x,rfl⟩
 ·subst y;walk_at"wp";refine a _ _ (lJ 5 rfl λR rr rx a=>?_);walk_at"wp";refine xM (dJ bR B) (by simp[fdD];exact z453 m A) ?_;have O:(fdD F).map (·.1)=F:=by simp[fdD,Function.comp_def]
  rw[O];walk_at"wp";refine⟨F,.inl (by simp[seqL]),by exact z463 m A,λms S T=>?_⟩;walk_at"wp";refine rr _ _ _ (h ms _ _ ⟨F,sk,S,T⟩ (p.trans (bR.trans (bR.trans bR))) ?_ dG);have:=p.length_le;simp;exact c6 this
noncomputable def inL (l:List Int) (y:AV):Bool:=match y with|.tup (.int q::_)=>l.contains q|_=>false
theorem wB (l:List Int) (r:Row):inL l (roP r)=l.contains r.1:=rfl
theorem CG {l:List Int}(rs:List Row):(rs.map roP).filterMap (λy=>if inL l y then some y else none)=(rs.filter λr=>l.contains r.1).map roP:=by
 induction rs with
 | nil=>rfl
 | cons r rs ih =>
  rw[aF,jy,wB,List.filter_cons];cases l.contains r.1 with
  | true=>simp only[if_true,ih,aF]
  | false=>simp only[jN,if_false,ih]
def SCut (Φ:Fun):Prop:=∀(rs:List Row) (n:Int) (H:Hp) (Q:PQ),RR rs->n∈rs.map al->(∀ms H',Und rs n ms->H<+:H'->Q (slA (rs.filter λr=>(ms++[n]).contains r.1)) H')->Φ "cut" [slA rs,.int n] H Q
theorem cut {RS:Rais}(cs:xc Φ){rs:List Row}{n:Int}{Q:PQ}(a:RR rs) (u:n∈rs.map al) (h:∀ms H',Und rs n ms->H<+:H'->Q (slA (rs.filter λr=>(ms++[n]).contains r.1)) H') :
  wpFX Φ (qJ RS) [slA rs,.int n] H Q XF:=by
 have t:=a.len;refine⟨rfl,?_⟩;show wpSs Φ ((qJ RS).body.drop 0) [some (.tup (rs.map roP)),some (.int n),none] H (endX Q XF);refine lJ 0 rfl λm rr rx g=>?_;refine .inl ?_;walk_at"wp";refine cs rs n H _ a u λms i j f p1 B s=>?_;refine eT (id f) λF sk w D=>?_;have p:=sk.len;have z:ms.length=F.length:=w.length_eq;walk_at"wp";refine⟨ye rfl,?_⟩;refine pd (dJ bR s) dG (by simp;exact z464 t p z) ?_;walk_at"wp";refine g _ _ (lJ 1 rfl λm rr rx g=>?_);generalize d:i++[AObj.list [AV.int n]]=l;have p2:H<+:l:=by rw[<-d];exact p1.trans bR
 have o:ms.map AV.int++[AV.int n]=(ms++[n]).map .int:=by simp
 rw[o];walk_at"wp";refine sS (λy=>if inL (ms++[n]) y then some y else none) (by rw[ya];exact szL (by lia)) trivial (λy x=>?_) ?_
 ·refine aK (yh x) λr C c=>?_;subst c;refine⟨[roP r],rfl,λK k=>?_,λv hv A q=>?_⟩
  ·walk_at"wp";refine qp ?_;walk_at"wp";refine qo (K:=λb=>kCs Φ _ _ _ (.bool b) _) dG ?_;rw[wB] at k;refine gC (K:=λb=>kCs Φ _ _ _ (.bool b) _) (λe=>?_) (λe=>?_)
   ·rw[e] at k;walk_at"wp";exact k
   ·rw[e] at k;walk_at"wp";exact k
  ·have:roP r=v:=by
    split at hv
    ·exact yj hv
    ·cases hv
   walk_at"wp";rw[this];exact q
 ·rw[CG];walk_at"wp";refine pi dG (by rw[ya];exact aa (iX _ _) (by lia)) ?_;walk_at"wp";exact rr _ _ _ (h ms _ f (p2.trans (bR.trans bR)))
end
section
open PySem
noncomputable def RNo:Rais:=λargs H X=>∃rs n,args=[slA rs,.int n]/\RR rs/\n∉rs.map al/\∀H',H<+:H'->X "NoRow" H'
theorem Gb {Φ:Fun}(f:SByT Φ){a:List AV}{H:Hp}{X:XP}(h:RNo a H X):wpFX Φ rq a H (λ_ _=>False) X:=by refine m9 (h) λrs n c b i d=>?_;clear h;subst c;revert d;intro h;have g:=b.len;refine⟨rfl,?_⟩;show wpSs Φ (rq.body.drop 0) [some (.tup (rs.map roP)),some (.int n),none,none,none,none] H (endX _ X);refine lJ 0 rfl λR rr rx e=>?_;walk_at"wp";refine f rs H _ (by exact z457 g) ?_;rw[yY b.nd];walk_at"wp";refine e _ _ (lJ 1 rfl λR rr rx e=>?_);walk_at"wp";refine oE dG ?_;rw[show(dget (byR rs) n).isSome=false from Bool.eq_false_iff.mpr λz=>i (tO.mp z)];simp only[bT];walk_at"wp";refine(?_:wpEs Φ [_] _ _ _);walk_at"wp";exact⟨szL (by simp),rx _ _ _ (h _ bR)⟩
theorem AR {Φ:Fun}{a:List AV}{H:Hp}{X:XP}(h:RNo a H X):wpFX Φ (qJ RNo) a H (λ_ _=>False) X:=by refine m9 (h) λrs n b c e d=>?_;clear h;subst b;revert d;intro h;refine⟨rfl,?_⟩;show wpSs Φ ((qJ RNo).body.drop 0) [some (.tup (rs.map roP)),some (.int n),none] H (endX _ X);refine lJ 0 rfl λR rr rx f=>?_;refine .inr ?_;walk_at"wp";exact⟨rs,n,rfl,c,e,λH' p=>rx _ _ _ (h H' p)⟩
def wY (Φ:Fun):Prop:=∀(k:Nat) (rs:List (Int×Fc)) (H:Hp) (Q:PQ),rs.length<=200->(∀r∈rs,RoK k r.1 r.2)->(∀H',H<+:H'->Q (optA (wr 0 [] rs)) H')->Φ "_law_wrong" [.tup (rs.map roP)] H Q
theorem Gv {Φ:Fun}(D:rU "_law_holds" Φ) (E:pK "_law_tells" Φ){k:Nat}{rs:List (Int×Fc)}{H:Hp}{Q:PQ}(I:rs.length<=200) (B:∀r∈rs,RoK k r.1 r.2) (h:∀H',H<+:H'->Q (optA (wr 0 [] rs)) H'):wpF Φ vo [.tup (rs.map roP)] H Q:=by
 have x:(rs.map roP).length<=1000:=by rw[ya];exact z144 I
 have F:((rs.map roP).length:Int)=rs.length:=by simp
 ((refine⟨rfl,?_⟩;simp only[lst,aM,aO,am]))
 simp only[vo];walk_at"wp";refine⟨by decide,by exact z123 x,by exact z135,by exact z136 x,?_⟩;rw[F];refine lC (λm loc H'=>∃(g:List Int) (o2:Option AV),H<+:H'/\H'[H.length]?=some (.list (g.map .int))/\g.length<=m/\wr m g (rs.drop m)=wr 0 [] rs/\loc=[some (.tup (rs.map roP)),some (.ref H.length),o2]) ⟨[],none,bR,dG,az _,by simp,rfl⟩ ?_;intro m loc H' j;refine mI (j) λg o2 o C n c u=>?_;clear j;subst u;refine⟨trivial,λy J=>?_,λz=>?_⟩
 ·refine c7 (r5 J) λt f=>?_;subst t;have f:m<rs.length:=by simpa using f
  have p:rs[m]?=some rs[m]:=ak f;generalize rs[m]=r at p;have e:=(ym p).2;rw[bp f,e,wr] at c;have A:=B r (yc p);have a:∀{i:Hp}{s:PQ},s (roA r.1 r.2) i->jT (.tup (rs.map roP)) (.int m) i s:=λ{i s} q=>oO (l:=rs.map roP) rfl (by exact z123 x) (by exact z158) (by rw[aq,cx,p];rfl) q;refine⟨[.int m],rfl,?_⟩;walk_at"wp";refine a ?_;walk_at"wp";refine D k H.length r.1 r.2 g H' _ C A λi p2=>?_;have d:=dJ p2 C;walk_at"wp";refine gC (K:=λb=>oj Φ _ _ _ _ _ (!b)) (λv=>?_) (λv=>?_)
  ·simp only[bC];walk_at"wp";rw[v,if_pos rfl] at c;refine a ?_;walk_at"wp";refine E r.1 r.2 i _ ?_;walk_at"wp";refine gC (K:=λb=>oj Φ _ _ _ _ _ b) (λw=>?_) (λw=>?_)
   ·walk_at"wp";rw[w,if_pos rfl] at c;refine⟨mr d,?_⟩;refine a ?_;walk_at"wp";refine qO ?_;walk_at"wp";refine pe d (by rw[ya];lia) ?_;walk_at"wp";refine jG ⟨g++[r.1],_,lU (o.trans p2) (az _),?_,by rw[aC];simp;exact z412 n,c,rfl⟩;rw[lS d];simp
   ·walk_at"wp";rw[w,if_neg (by decide)] at c;exact jG ⟨g,_,o.trans p2,d,by exact c6 n,c,rfl⟩
  ·simp only[bT];walk_at"wp";rw[v,if_neg (by decide)] at c;rw[<-c] at h;exact h _ (o.trans p2)
 ·walk_at"wp";have G:m=rs.length:=by simpa using z
  have:rs.drop m=[]:=d7 (by exact bf (id (Eq.symm G)));rw[this] at c;rw[<-c] at h;exact h _ o
end
section
open PySem
def DCl (S:List Int):Prop:=∀q∈S,isPB q.toNat=true->∀p:Nat,Pr p->p∣q.toNat-1->(p:Int)∈S
structure Tru (T:List Int) (r:Row):Prop where
 tells:r.2.tells=isPB r.1.toNat
 holds:r.2.holds r.1 r.2.needs=true
 needs:∀q∈r.2.needs,q∈T/\0<=q/\isPB q.toNat=true/\q<r.1
 dv:∀q∈r.2.needs,q.toNat∣r.1.toNat-1
theorem Fd {ps:List (Int×Int)}{p:Int×Int}(a:p∈ps) (b:1<=p.2):p.1∣gA ps:=by
 induction ps with
 | nil=>cases a
 | cons x ps ih =>
  simp only[gA];rcases yg a with rfl|a
  ·refine Int.dvd_trans ?_ (Int.dvd_mul_right _ _);obtain⟨m,c⟩:∃m,p.2.toNat=m+1:=⟨p.2.toNat-1,by exact z465 b⟩;rw[c,dE];exact Int.dvd_mul_left _ _
  ·exact Int.dvd_trans (ih a) (Int.dvd_mul_left _ _)
theorem Ch {k:Nat}{T t:List Int}{r:Row}(s:RoK k r.1 r.2) (w:∀q∈t,q∈T/\0<=q/\isPB q.toNat=true) (h:r.2.holds r.1 t=true):Tru T r:=by
 obtain⟨n,f⟩:=r;have l:=Gg s (λq d=>(w q d).2) h;cases f with
 | prime b ps =>
  refine m7 (s) λB C D o j _=>?_;clear s;refine c7 (o) λA _=>?_;clear o;have h:((ps.all λp=>t.contains p.1)&&(decide (gA ps=n-1)&&(decide (b<n)&&jV n b ps)))=true:=h;have h':=h;simp only[aS,aN,decide_eq_true_eq] at h';refine fT (h') λy z _=>?_;clear h';have m:∀q∈(Fc.prime b ps).needs,∃p∈ps,p.1=q:=λq d=>by have:q∈ps.map (·.1):=d;exact yh this
  have u:∀p∈ps,p.1∣n-1:=λp g=>z▸Fd g (j.2.2 p g).2.2.1;refine⟨l,?_,λq d=>?_,λq d=>?_⟩
  ·show((ps.all λp=>(ps.map (·.1)).contains p.1)&&(decide (gA ps=n-1)&&(decide (b<n)&&jV n b ps)))=true;rw[aS] at h ⊢;refine⟨aN.mpr λp g=>?_,h.2⟩;simpa using ⟨p.2,g⟩
  ·refine aK (m q d) λp g i=>?_;subst i;have:=w p.1 (by have:=y p g;simpa using this);refine⟨this.1,this.2.1,this.2.2,?_⟩;have:=Int.le_of_dvd (by lia) (u p g);show p.1<n;exact jr this
  ·refine aK (m q d) λp g i=>?_;subst i;refine cG (u p g) λc v=>?_;have p2:=(j.2.2 p g).1;have x:0<=c:=Int.le_of_mul_le_mul_left (a:=p.1) (by rw[<-v];lia) (by exact z384 p2);refine⟨c.toNat,?_⟩;show n.toNat-1=p.1.toNat*c.toNat;have e:((p.1.toNat*c.toNat:Nat):Int)=p.1*c:=by rw[fu,bb (by exact z231 p2),bb x]
   exact z466 v e
 | first=>exact⟨l,h,(λq d=>by cases d),(λq d=>by cases d)⟩
 | split a b=>exact⟨l,h,(λq d=>by cases d),(λq d=>by cases d)⟩
 | power b=>exact⟨l,h,(λq d=>by cases d),(λq d=>by cases d)⟩
 | root b=>exact⟨l,h,(λq d=>by cases d),(λq d=>by cases d)⟩
theorem ue {k:Nat}{T:List Int}:∀{rs:List Row}{m:Nat}{d:List Int},(∀r∈rs,RoK k r.1 r.2)->(∀r∈rs,r.1∈T)->(∀q∈d,q∈T/\0<=q/\isPB q.toNat=true)->wr m d rs=none->∀r∈rs,Tru T r
 | [],_,_,_,_,_,_,r,b=>by cases b
 | x::rs,m,d,hk,hT,hp,h,r,b=>by
  rw[wr] at h;cases f:x.2.holds x.1 d with
  | false=>rw[f,if_neg (by decide)] at h;cases h
  | true =>
   rw[f,if_pos rfl] at h;have c:=hk x (by simp);have i:=Ch c hp f;rcases yg b with rfl|b
   ·exact i
   ·refine ue (λy g=>hk y (yi _ g)) (λy g=>hT y (yi _ g)) (λq a=>?_) h r b;split at a
    ·rename_i e;rcases yd a with a|a
     ·exact hp q a
     ·rw[yb a];exact⟨hT x (by simp),by have:=c.2.1;exact z231 this,by rw[<-i.tells];exact e⟩
    ·exact hp q a
theorem Tru.all {k:Nat}{T:List Int}{r:Row}(h:Tru T r) (o:RoK k r.1 r.2) (v:isPB r.1.toNat=true){p:Nat}(l:Pr p) (m:p∣r.1.toNat-1):(p:Int)∈r.2.needs:=by
 obtain⟨n,f⟩:=r;have g:=h.tells;have c:=h.holds;rw[show isPB ((n,f):Row).1.toNat=true from v] at g;have A:n.toNat-1≠1\/True:=.inr trivial;cases f with
 | first =>
  have:n=2:=of_decide_eq_true c;subst this;have:=eu (by decide) m;have:=l.1;have e:(2:Int).toNat-1=1:=rfl;lia
 | prime b ps =>
  refine m7 (o) λC w D d j _=>?_;clear o;refine c7 (d) λB _=>?_;clear d;have c:((ps.all λp=>(ps.map (·.1)).contains p.1)&&(decide (gA ps=n-1)&&(decide (b<n)&&jV n b ps)))=true:=c;simp only[aS,decide_eq_true_eq] at c;have u:=c.2.1;have q:∀x∈ps,0<=x.1:=λx i=>by have:=j.2.2 x i;exact z445 this
  obtain⟨x,i,t⟩:=u_ l q (by
   rw[u,show n-1=((n.toNat-1:Nat):Int) by have:(2:Int)<=n:=w;exact z467 this];exact e_.mpr m)
  have s:x.1∈(Fc.prime b ps).needs:=yo ⟨x,i,rfl⟩;have y:=pM.mp (h.needs x.1 s).2.2.1;have e:p=x.1.toNat:=by
   rcases y.2 p t with z|z
   ·have:=l.1;exact z447 z this
   ·exact z
  rw[e,bb (q x i)];exact s
 | split a b=>cases g
 | power b=>cases g
 | root b=>cases g
theorem AT {rs:List Row}(d:∀r∈rs,RoK k r.1 r.2) (h:wr 0 [] rs=none):DCl (rs.map al):=λq c f p g e=>by refine aK (yh c) λr a b=>?_;subst b;have t:=ue (T:=rs.map al) d (λr a=>yo ⟨r,a,rfl⟩) (λq c=>by cases c) h r a;exact(t.needs _ (t.all (d r a) f g e)).1
structure Sh (N:Nat) (L:List Row):Prop where
 nd:(L.map al).Nodup
 len:L.length<=N
 ok:∀r∈L,RoK 1 r.1 r.2
 tru:∀r∈L,Tru (L.map al) r
 cl:∀r∈L,∃S:List Int,S.length<=63/\r.1∈S/\DCl S
structure Sl (rs:List Row):Prop where
 rk:RsK 1 rs
 wr:Mine.wr 0 [] rs=none
theorem Sh.nil (N:Nat):Sh N []:=⟨eV,cX _,(λr a=>by cases a),(λr a=>by cases a),λr a=>by cases a⟩
theorem Sh.put {L rs:List Row}(h:Sh N L) (s:Sl rs):Sh (N+63) (rs.foldl insR L):=by
 have c:∀{q:Int},q∈(rs.foldl insR L).map al↔q∈L.map al\/q∈rs.map al:=uE;have e:=ue (T:=rs.map al) s.rk.2.2.1 (λr b=>yo ⟨r,b,rfl⟩) (λq a=>by cases a) s.wr;have up:∀{T:List Int}{r:Row},(∀q∈T,q∈(rs.foldl insR L).map al)->Tru T r->Tru ((rs.foldl insR L).map al) r:=λd t=>⟨t.tells,t.holds,λq a=>⟨d q (t.needs q a).1,(t.needs q a).2⟩,t.dv⟩;refine⟨xh h.nd,aa rg (cZ h.len s.rk.2.1),λr b=>?_,λr b=>?_,λr b=>?_⟩
 ·rcases sI b with z|z
  ·exact h.ok r z
  ·exact s.rk.2.2.1 r z
 ·rcases sI b with z|z
  ·exact up (λq a=>c.mpr (.inl a)) (h.tru r z)
  ·exact up (λq a=>c.mpr (.inr a)) (e r z)
 ·rcases sI b with z|z
  ·exact h.cl r z
  ·exact⟨rs.map al,by rw[ya];exact s.rk.2.1,yo ⟨r,z,rfl⟩,AT s.rk.2.2.1 s.wr⟩
noncomputable def del (L:List Row) (n:Int):List Row:=L.filter λr=>!decide (r.1=n)
theorem Sh.drop {L:List Row}{n:Int}(h:Sh N L) (d:∀r∈L,n∉r.2.needs):Sh N (del L n):=by
 have sub:∀r,r∈del L n↔r∈L/\r.1≠n:=λr=>by simp[del]
 refine⟨(h.nd.sublist ((nG).map _)),aa (iX _ _) h.len,λr a=>h.ok r ((sub r).mp a).1,λr a=>?_,λr a=>h.cl r ((sub r).mp a).1⟩;have t:=h.tru r ((sub r).mp a).1;refine⟨t.tells,t.holds,λq b=>⟨?_,(t.needs q b).2⟩,t.dv⟩;refine aK (yh (t.needs q b).1) λs c e=>?_;exact yo ⟨s,(sub s).mpr ⟨c,λz=>d r ((sub r).mp a).1 (by rw[<-z,e];exact b)⟩,e⟩
theorem Sh.up {M:Nat}{L:List Row}(h:Sh N L) (a:N<=M):Sh M L:=⟨h.nd,aa h.len a,h.ok,h.tru,h.cl⟩
end
section
open PySem
def IsPt (L:List Row) (n:Int) (pt:List Row):Prop:=(pt.map al).Pairwise (·<·)/\∀r,r∈pt↔r∈L/\(r.1=n\/Rch L n r.1)
theorem IsPt.uniq {L:List Row}{n:Int}{a b:List Row}(nd:(L.map al).Nodup) (f:IsPt L n a) (g:IsPt L n b):a=b:=by
 have e:a.map al=b.map al:=wD f.1 g.1 λq=>by
  constructor
  ·intro h;refine aK (yh h) λr d c=>?_;subst c;exact yo ⟨r,(g.2 r).mpr ((f.2 r).mp d),rfl⟩
  ·intro h;refine aK (yh h) λr d c=>?_;subst c;exact yo ⟨r,(f.2 r).mpr ((g.2 r).mp d),rfl⟩
 rw[<-uU nd λr d=>((f.2 r).mp d).1,<-uU (G:=b) nd λr d=>((g.2 r).mp d).1];exact congrArg (List.map (ju L)) e
theorem Rch.mono {L M:List Row}(h:∀r∈L,r∈M){n:Int}(r:Rch L n q):Rch M n q:=by
 induction r with
 | one b a=>exact .one (h _ b) a
 | more _ b a ih=>exact .more ih (h _ b) a
theorem Gf {n:Int}{f:Fc}{d:List Int}(e:∀q∈f.needs,q∈d) (h:f.holds n f.needs=true):f.holds n d=true:=by
 cases f with
 | prime b ps =>
  have h:((ps.all λp=>(ps.map (·.1)).contains p.1)&&(decide (gA ps=n-1)&&(decide (b<n)&&jV n b ps)))=true:=h;show((ps.all λp=>d.contains p.1)&&(decide (gA ps=n-1)&&(decide (b<n)&&jV n b ps)))=true;rw[aS] at h ⊢;refine⟨aN.mpr λp c=>?_,h.2⟩;have:=e p.1 (yo ⟨p,c,rfl⟩);simpa using this
 | first=>exact h
 | split a b=>exact h
 | power b=>exact h
 | root b=>exact h
theorem xY {rs:List Row}(h:∀r∈rs,Tru (rs.map al) r) (b:(rs.map al).Pairwise (·<·)):∀(c a:List Row),rs=a++c->∀k,wr k ((a.filter λr=>r.2.tells).map al) c=none
 | [],_,_,_=>rfl
 | x::c,a,e,k=>by
  have p:x∈rs:=by rw[e];simp
  have t:=h x p;have d:x.2.holds x.1 ((a.filter λr=>r.2.tells).map al)=true:=Gf (λq o=>by
   refine jA (t.needs q o) λm u n g=>?_;refine aK (yh m) λs j f=>?_;subst f;have l:s∈a:=by
    rw[e] at j;rcases yd j with z|z
    ·exact z
    ·exfalso;rw[e,aQ,cV] at b;rcases yg z with z|z
     ·rw[z] at g;exact z468 g
     ·rw[aF,cy] at b;have:=b.2.1.1 s.1 (yo ⟨s,z,rfl⟩);exact z469 g this
   have st:s.2.tells=true:=by rw[(h s (by rw[e];exact yp (.inl l))).tells];exact n
   exact yo ⟨s,kW.mpr ⟨l,st⟩,rfl⟩) t.holds
  rw[wr,d,if_pos rfl];have:=xY h b c (a++[x]) (by rw[e];simp) (k+1);rw[jI,aQ] at this;cases i:x.2.tells with
  | true =>
   rw[if_pos rfl];rw[f8 (by exact i)] at this;exact this
  | false =>
   rw[if_neg (by decide)];rw[f9 (by rw[i];decide)] at this;simpa using this
theorem Bx {L:List Row}{S:List Int}(l:∀r∈L,Tru (L.map al) r) (i:DCl S){n:Int}(e:n∈S) (r:Rch L n q):q∈S:=by
 have one:∀{r:Row}{q:Int},r∈L->r.1∈S->q∈r.2.needs->q∈S:=λ{r q} d j c=>by
  have t:=l r d;refine jA (t.needs q c) λm g h o=>?_;have k:isPB r.1.toNat=true:=by
   rw[<-t.tells];obtain⟨n,f⟩:=r;cases f with
   | prime b ps=>rfl
   | first=>rfl
   | split a b=>cases c
   | power b=>cases c
   | root b=>cases c
  have:=i r.1 j k q.toNat (pM.mp h) (t.dv q c)
  rwa [bb g] at this
 induction r with
 | one d c=>exact one d e c
 | more _ d c ih=>exact one d (ih e) c
theorem Sh.part {L:List Row}{n:Int}{d:List Row}(h:Sh N L) (w:n∈L.map al) (c:IsPt L n d):Sl d:=by
 refine aK (yh w) λp i v=>?_;refine eT (h.cl p i) λS s1 u y=>?_;rw[v] at u;have m:∀q∈d.map al,q∈S:=λq f=>by
  refine aK (yh f) λr g j=>?_;subst j;rcases((c.2 r).mp g).2 with z|z
  ·rw[z];exact u
  ·exact Bx h.tru y u z
 have o:(d.map al).Nodup:=c.1.imp λ{a b} z=>dF z;have A:∀r∈d,Tru (d.map al) r:=λr g=>by
  refine c7 ((c.2 r).mp g) λk l=>?_;have t:=h.tru r k;refine⟨t.tells,t.holds,λq f=>⟨?_,(t.needs q f).2⟩,t.dv⟩;refine aK (yh (t.needs q f).1) λs x e=>?_;refine yo ⟨s,(c.2 s).mpr ⟨x,.inr ?_⟩,e⟩;rw[e];rcases l with z|z
  ·rw[<-z];exact .one k f
  ·exact .more z k f
 refine⟨⟨λz=>?_,?_,λr g=>h.ok r ((c.2 r).mp g).1,c.1⟩,xY A c.1 d [] rfl 0⟩
 ·have:p∈d:=(c.2 p).mpr ⟨i,.inl v⟩;rw[z] at this;cases this
 ·have:=sM o m;rw[ya] at this;exact aa this s1
def Srt (L rs:List Row):Prop:=rs.Perm L/\(rs.map al).Pairwise (·<·)
theorem Srt.of {L:List Row}{ms:List Int}(nd:(L.map al).Nodup) (a:ms.Perm (L.map al)) (b:ms.Pairwise (·<=·)):Srt L (ms.map (ju L)):=Bs nd a b
theorem Srt.rr {L rs:List Row}(h:Sh N L) (b:N<=450) (s:Srt L rs):RR rs :=
 ⟨by rw[s.1.length_eq];exact aa h.len b,λr a=>h.ok r (s.1.mem_iff.mp a),s.2,λr a q c=>by
  refine aK (yh ((h.tru r (s.1.mem_iff.mp a)).needs q c).1) λx d e=>?_;exact⟨x,s.1.mem_iff.mpr d,e⟩⟩
theorem AS {N:Nat}{L rs:List Row}{n:Int}{ms:List Int}(h:Sh N L) (s:Srt L rs) (b:Und rs n ms):IsPt L n (rs.filter λr=>(ms++[n]).contains r.1):=by refine eT (b) λF sk c _=>?_;clear b;refine⟨s.2.sublist ((nG).map _),λr=>?_⟩;rw[kW,s.1.mem_iff];refine and_congr_right λa=>?_;simp only[i_,iS,fV,decide_eq_true_eq];rw[c.mem_iff,Or.comm];refine or_congr_right ⟨λz=>(sk.rch _ z).mono λr a=>s.1.mem_iff.mp a,λz=>sk.all (z.mono λr a=>s.1.mem_iff.mpr a)⟩
end
section
open PySem
theorem pv (L:List Row):(byR L).length=L.length:=by simp[byR]
def pW (Φ:Fun):Prop:=∀(k:Nat) (L:List Row) (H:Hp) (Q:PQ),H[k]?=some (.dict (byR L))->L.length<=450->(∀(ms:List Int) (H':Hp) (j:Nat),ms.Perm (L.map al)->ms.Pairwise (·<=·)->H<+:H'->H.length<=j->H'[j]?=some (.list (ms.map .int))->Q (.ref j) H')->Φ "Shelf.numbers" [.obj k] H Q
theorem numbers {L:List Row}{Q:PQ}(b:H[k]?=some (.dict (byR L))) (a:L.length<=450) (h:∀(ms:List Int) (H':Hp) (j:Nat),ms.Perm (L.map al)->ms.Pairwise (·<=·)->H<+:H'->H.length<=j->H'[j]?=some (.list (ms.map .int))->Q (.ref j) H'):wpF Φ vJ [.obj k] H Q:=by
 ((refine⟨rfl,?_⟩;simp only[lst,aM,aO,am]))
 simp only[vJ];walk_at"wp";refine xM b (by rw[pv];exact z457 a) ?_;rw[rb];walk_at"wp";refine x7 dG (by simp;exact z470 a) λms c d=>?_;walk_at"wp";exact h ms _ _ c d (bR.trans bR) (by simp) dG
noncomputable def on (L:List Row) (n:Int):AV:=if (dget (byR L) n).isSome then (if (ju L n).2.tells then .str "prime" else .str "parted") else .none
def rG (Φ:Fun):Prop:=∀(k:Nat) (L:List Row) (n:Int) (H:Hp) (Q:PQ),H[k]?=some (.dict (byR L))->(L.map al).Nodup->Q (on L n) H->Φ "Shelf.told" [.obj k,.int n] H Q
theorem told (e:pK "tells_prime" Φ){L:List Row}{n:Int}{Q:PQ}(d:H[k]?=some (.dict (byR L))) (nd:(L.map al).Nodup) (h:Q (on L n) H):wpF Φ vp [.obj k,.int n] H Q:=by
 ((refine⟨rfl,?_⟩;simp only[lst,aM,aO,am]))
 show wpSs Φ (vp.body.drop 0) [some (.obj k),some (.int n)] H (i6 Q);refine g5 0 rfl λR rr c=>?_;walk_at"wp";refine oE d ?_;unfold on at h;refine gC (K:=λb=>kIte Φ _ _ _ _ (.bool !b) _) (λa=>?_) (λa=>?_)
 ·simp only[bC];walk_at"wp";rw[a,if_pos rfl] at h;refine c7 (oF nd (mP.mp a)) λf g=>?_;refine c _ _ (g5 1 rfl λR rr c=>?_);walk_at"wp";rw[oN d];refine⟨_,f,?_⟩;walk_at"wp";refine e (ju L n).1 (ju L n).2 H _ ?_;refine gC (K:=λb=>kIte Φ _ _ _ _ (.bool b) _) (λa=>?_) (λa=>?_)
  ·walk_at"wp";rw[a,if_pos rfl] at h;exact rr _ _ _ h
  ·walk_at"wp";rw[a,if_neg (by decide)] at h;refine c _ _ (g5 2 rfl λR rr c=>?_);walk_at"wp";exact rr _ _ _ h
 ·simp only[bT];walk_at"wp";rw[a,if_neg (by decide)] at h;exact rr _ _ _ h
end
section
open PySem
theorem ph {A B:Hp}{k:Nat}{o:AObj}(p:A<+:B) (h:k<A.length):A.set k o<+:B.set k o:=by refine cG (p) λt a=>?_;clear p;subst a;exact⟨t,by rw[List.set_append_left _ _ h]⟩
theorem qr {A:Hp}{o o':AObj}:(A.set k o).set k o'=A.set k o':=List.set_set ..
theorem pP {o:AObj}(h:H[k]?=some o):H.set k o=H:=by refine cG (ym h) λa e=>?_;rw[<-e];exact List.set_getElem_self a
theorem yT:∀{rs L:List Row},L<+:rs.foldl insR L
 | [],L=>af _
 | r::rs,L=>by
  refine List.IsPrefix.trans ?_ (yT (rs:=rs) (L:=insR L r));unfold insR;split
  ·exact af _
  ·exact bE _ _
noncomputable def nws (L rs:List Row):List Int:=((rs.foldl insR L).drop L.length).map al
theorem E9 {L rs:List Row}{r:Row}:nws L (rs++[r])=if (dget (byR (rs.foldl insR L)) r.1).isSome then nws L rs else nws L rs++[r.1]:=by
 unfold nws;rw[iw];show((if (dget (byR (rs.foldl insR L)) r.1).isSome then rs.foldl insR L else rs.foldl insR L++[r]).drop L.length).map al=_;split
 ·rfl
 ·rw[c8 yT.length_le,aQ];rfl
theorem xC {L rs:List Row}:(nws L rs).length<=rs.length:=by have:=rg (l:=rs) (acc:=L);unfold nws;rw[ya,cK];lia
def NoSl (H:Hp) (v:AV):Prop:=NoT H v\/∃rs,v=slA rs/\RsK 1 rs/\wr 0 [] rs≠none
def wN (k:Nat) (L rs:List Row) (H:Hp) (Q:PQ):Prop:=∀(H':Hp) (j:Nat),H.set k (.dict (byR (rs.foldl insR L)))<+:H'->H.length<=j->H'[j]?=some (.list ((nws L rs).map .int))->Q (.ref j) H'
noncomputable def RPut:mL:=λargs H Q X=>∃k L v,args=[.obj k,v]/\H[k]?=some (.dict (byR L))/\L.length<=450/\((∃rs,v=slA rs/\Sl rs/\wN k L rs H Q)\/(NoSl H v/\∀H',H<+:H'->X "NotHeld" H'))
theorem uF (a:pV Φ){rs:List Row}{Q:PQ}(h:RsK 1 rs) (q:∀H',H<+:H'->Q (.bool (wr 0 [] rs).isNone) H'):Φ "lets_by" [slA rs] H Q:=a _ H Q (.inl ⟨1,rs,rfl,h,q⟩)
theorem C6 (a:pV Φ){Q:PQ}(h:NoSl H v) (q:∀H',H<+:H'->Q (.bool false) H'):Φ "lets_by" [v] H Q:=by
 obtain z|⟨rs,rfl,b,c⟩:=h
 ·exact a v H Q (.inr ⟨z,q H (af _)⟩)
 ·refine uF a b λH' p=>?_;rw[show(wr 0 [] rs).isNone=false by cases e:wr 0 [] rs with|none=>exact absurd e c|some _=>rfl];exact q H' p
theorem yD {Φ:Fun}{d:ME}{x:AV}{k:Nat}{L rs:List Row}{H a:Hp}{R:PF}(z:∀(o:Option AV) (H':Hp) (Q:PQ),Q (.ref k) H'->wpE Φ d [some x,some (.tup (rs.map roP)),some (.ref a.length),o] H' Q) (u:H[k]?=some (.dict (byR L))) (I:L.length<=450) (C:rs.length<=63) (p1:H<+:a)
  (h:∀(o:Option AV) (H':Hp),H.set k (.dict (byR (rs.foldl insR L)))<+:H'->H'[a.length]?=some (.list ((nws L rs).map .int))->R .next [some x,some (.tup (rs.map roP)),some (.ref a.length),o] H') :
  wpS Φ (.forr false [3] .plain [.loc 1] [.ite (.cmp .notIn (.idx (.loc 3) (.cst (.int 0))) d) [.sto d (.idx (.loc 3) (.cst (.int 0))) (.loc 3),
   .expr (.meth .append (.loc 2) [.idx (.loc 3) (.cst (.int 0))])] []]) [some x,some (.tup (rs.map roP)),some (.ref a.length),none] (a++[.list []]) R:=by
 have B:k<H.length:=(ym u).1;have G:a[k]?=some (.dict (byR L)):=dJ p1 u;walk_at"wp";refine lC (λt loc H'=>∃(o:Option AV),H.set k (.dict (byR ((rs.take t).foldl insR L)))<+:H'/\H'[k]?=some (.dict (byR ((rs.take t).foldl insR L)))/\H'[a.length]?=some (.list ((nws L (rs.take t)).map .int))/\loc=[some x,some (.tup (rs.map roP)),some (.ref a.length),o]) ⟨none,?_,?_,?_,rfl⟩ ?_
 ·show H.set k (.dict (byR L))<+:_;rw[pP u];exact p1.trans bR
 ·exact dJ bR G
 ·rw[dG];simp[nws]
 intro t loc H' i;refine lB (i) λo j m n q=>?_;clear i;subst q;have g:a.length≠k:=by have:=p1.length_le;exact z471 B this
 refine⟨trivial,λy A=>?_,λN=>?_⟩
 ·rw[aq] at A;refine aK (yf A) λr M p=>?_;subst p;have e:rs.take (t+1)=rs.take t++[r]:=by rw[cM,M];rfl
  have es:(rs.take t++[r]).foldl insR L=insR ((rs.take t).foldl insR L) r:=by rw[iw];rfl
  have w:=rg (l:=rs.take t) (acc:=L);have E:(rs.take t).length<=rs.length:=mZ _ _;have O:=xC (L:=L) (rs:=rs.take t);have v:=E9 (L:=L) (rs:=rs.take t) (r:=r);refine⟨[roP r],rfl,?_⟩;walk_at"wp";refine qp ?_;walk_at"wp";refine z _ _ _ ?_;walk_at"wp";refine oE m ?_;generalize P:(rs.take t).foldl insR L=D at w es j m v;refine gC (K:=λb=>kIte Φ _ _ _ _ (.bool !b) _) (λf=>?_) (λf=>?_)
  ·simp only[bC];walk_at"wp";refine jG ⟨_,?_,?_,?_,rfl⟩
   ·rw[e,es,insR,if_pos f];exact j
   ·rw[e,es,insR,if_pos f];exact m
   ·rw[e,v,if_pos f];exact n
  ·simp only[bT];walk_at"wp";refine z _ _ _ ?_;walk_at"wp";refine qp ?_;walk_at"wp";have J:dget (byR D) r.1=none:=by simpa using f
   have c:¬ (dget (byR D) r.1).isSome=true:=by rw[f];decide
   refine pO m (by rw[pv];exact z472 I C E w) ?_;rw[sH J,w0];have s:(H'.set k (.dict (byR (D++[r]))))[a.length]?=some (.list ((nws L (rs.take t)).map .int)):=by rw[i7 (Ne.symm g)];exact n
   have F:(H'.set k (.dict (byR (D++[r]))))[k]?=some (.dict (byR (D++[r]))):=lS m;walk_at"wp";refine⟨mr s,?_⟩;refine qp ?_;walk_at"wp";refine pe s (by rw[ya];exact z473 C E O) ?_;walk_at"wp";refine jG ⟨_,?_,?_,?_,rfl⟩
   ·rw[e,es,insR,if_neg c];refine lU ?_ (by rw[bh];exact p1.length_le);have:=ph (k:=k) (o:=.dict (byR (D++[r]))) j (by rw[bh];exact B)
    rwa [qr] at this
   ·rw[e,es,insR,if_neg c,i7 g];exact F
   ·rw[e,v,if_neg c,lS s];simp
 ·have:rs.take t=rs:=be (by rw[N];simp);rw[this] at j n;exact h _ _ j n
theorem put {Φ:Fun}(g:pV Φ){a:List AV}{H:Hp}{Q:PQ}{X:XP}(h:RPut a H Q X):wpFX Φ vd a H Q X:=by
 refine oX (h) λk L v c i l e=>?_;clear h;subst c;revert e;intro h;have p:k<H.length:=(ym i).1;refine⟨rfl,?_⟩;show wpSs Φ (vd.body.drop 0) [some (.obj k),some v,none,none] H (endX Q X);refine lJ 0 rfl λR rr rx b=>?_;walk_at"wp";rcases h with⟨rs,rfl,f,h⟩|⟨no,h⟩
 ·refine uF g f.rk λj p1=>?_;rw[f.wr];simp only[jx];walk_at"wp";refine b _ _ (lJ 1 rfl λR rr rx b=>?_);walk_at"wp";refine⟨by decide,?_⟩;refine b _ _ (lJ 2 rfl λR rr rx b=>?_);refine yD (d:=.att (.loc 0)) (λo H' Q q=>by walk_at"wp";exact q) i l f.rk.2.1 p1 λo H' m n=>?_;refine b _ _ (lJ 3 rfl λR rr rx b=>?_);walk_at"wp";exact rr _ _ _ (h _ _ m p1.length_le n)
 ·refine C6 g no λj p1=>?_;walk_at"wp";refine(?_:wpEs Φ [_] _ _ _);walk_at"wp";exact⟨szL (by simp),rx _ _ _ (h _ p1)⟩
end
section
open PySem
noncomputable def qC:mL:=λargs H Q X=>∃k L n,args=[.obj k,.int n]/\H[k]?=some (.dict (byR L))/\Sh 450 L/\(n∈L.map al->∀H' pt,H<+:H'->IsPt L n pt->Q (slA pt) H')/\(n∉L.map al->∀H',H<+:H'->X "NoRow" H')
theorem y7 (e:pW Φ){L:List Row}{n:Int}{Q:PL}(d:H[k]?=some (.dict (byR L))) (a:Sh 450 L) (h:∀H' rs,H<+:H'->Srt L rs->Q [slA rs,.int n] H') :
  wpEs Φ [.bi .tuple [.comp false 1 (.idx (.att (.loc 0)) (.loc 2)) .plain [.mcl "Shelf.numbers" (.loc 0) []] []],.loc 1] [some (.obj k),some (.int n)] H Q:=by
 walk_at"wp";refine e k L H _ d a.len λms g j b f p1 l c=>?_;walk_at"wp";rw[oB c];refine Gm (F:=L) (dJ p1 d) a.nd b (by have:=a.len;exact z457 this) c (λH' x Q q=>by walk_at"wp";exact q) λi p2=>?_;walk_at"wp";refine pi dG (by rw[ya,ya,b.length_eq,ya];have:=a.len;lia) ?_;walk_at"wp";exact h _ _ (p1.trans (p2.trans bR)) (Srt.of a.nd b f)
theorem slip {Φ:Fun}(e:pW Φ) (i:SCut Φ){a:List AV}{H:Hp}{Q:PQ}{X:XP}(h:qC a H Q X):wpFX Φ (vI RNo) a H Q X:=by
 refine lG (h) λk L n d f b j l=>?_;clear h;subst d;refine⟨rfl,?_⟩;show wpSs Φ ((vI RNo).body.drop 0) [some (.obj k),some (.int n)] H (endX Q X);refine lJ 0 rfl λR rr rx o=>?_
 by_cases c:n∈L.map al
 ·refine .inl (?_:wpEs Φ _ _ _ _);refine y7 e f b λH' rs p s=>?_;refine i rs n H' _ (s.rr b (az _)) ?_ λms g m p2=>?_
  ·exact((s.1.map al).mem_iff).mpr c
  ·walk_at"wp";exact rr _ _ _ (j c _ _ (p.trans p2) (AS b s m))
 ·refine .inr ?_;refine y7 e f b λH' rs p s=>?_;exact⟨rs,n,rfl,s.rr b (az _),λz=>c (((s.1.map al).mem_iff).mp z),λg p2=>rx _ _ _ (l c _ (p.trans p2))⟩
theorem yK {L:List Row}{n:Int}:ddel (byR L) n=byR (del L n):=by unfold ddel byR del;rw[List.filter_map];rfl
def Usd (L:List Row) (n:Int):Prop:=∃r∈L,n∈r.2.needs
noncomputable def qB:mL:=λargs H Q X=>∃k L n,args=[.obj k,.int n]/\H[k]?=some (.dict (byR L))/\Sh 450 L/\(n∉L.map al->∀H',H<+:H'->X "NoRow" H')/\(n∈L.map al->Usd L n->∀H',H<+:H'->X "Needed" H') /\
 (n∈L.map al->¬ Usd L n->∀H',H.set k (.dict (byR (del L n)))<+:H'->Q .none H')
theorem drop {Φ:Fun}(M:pW Φ) (cd:pc "needs" Φ){a:List AV}{H:Hp}{Q:PQ}{X:XP}(h:qB a H Q X):wpFX Φ vH a H Q X:=by
 refine lG (h) λk L n d u s O m=>?_;clear h;subst d;refine c7 (m) λP S=>?_;clear m;have U:k<H.length:=(ym u).1;have F:=s.len;refine⟨rfl,?_⟩;show wpSs Φ (vH.body.drop 0) [some (.obj k),some (.int n),none] H (endX Q X);refine lJ 0 rfl λR rr rx p=>?_;walk_at"wp";refine oE u ?_;refine gC (K:=λb=>kIte Φ _ _ _ _ (.bool !b) _) (λi=>?_) (λi=>?_)
 ·have B:=mP.mp i;simp only[bC];walk_at"wp";refine p _ _ (lJ 1 rfl λR rr rx p=>?_);refine(?_:wpEs Φ [_] _ _ _);walk_at"wp";refine M k L H _ u F λms J j C Z p1 Y A=>?_;walk_at"wp";rw[oB A];refine⟨λt loc H'=>∃(o:Option AV),J<+:H'/\(∀q∈ms.take t,n∉(ju L q).2.needs)/\loc=[some (.obj k),some (.int n),o],⟨none,af _,by simp,rfl⟩,?_⟩;intro t loc H' g;refine eT (g) λo p2 no d=>?_;clear g;subst d;have f:H'[k]?=some (.dict (byR L)):=dJ (p1.trans p2) u;refine⟨dJ p2 A,λy E=>?_,λT=>?_⟩
  ·rw[aq] at E;refine aK (yf E) λq w c=>?_;subst c;have G:=C.mem_iff.mp (yc w);refine c7 (oF s.nd G) λN W=>?_;have I:ju L q∈L:=by refine aK (yh G) λr l c=>?_;subst c;rw[oG s.nd l];exact l
   simp only[List.set];walk_at"wp";rw[oN f];refine⟨_,N,?_⟩;walk_at"wp";refine cd 1 (ju L q).1 (ju L q).2 H' _ (s.ok _ I) ?_;walk_at"wp";refine qo (K:=λb=>kIte Φ _ _ _ _ (.bool b) _) dG ?_;refine gC (K:=λb=>kIte Φ _ _ _ _ (.bool b) _) (λe=>?_) (λe=>?_)
   ·walk_at"wp";refine(?_:wpEs Φ [_] _ _ _);walk_at"wp";refine⟨szL (by simp),?_⟩;exact rx _ _ _ (P B ⟨_,I,by simpa using e⟩ _ (p1.trans (p2.trans bR)))
   ·walk_at"wp";refine⟨_,p2.trans bR,λx D=>?_,rfl⟩;rw[cM,w] at D;rcases yd D with z|z
    ·exact no x z
    ·rw[yb z];simpa using e
  ·have V:¬ Usd L n:=λ⟨r,l,w⟩=>by
    have:=no r.1 (by
     rw[be (by rw[T];simp)];exact C.mem_iff.mpr (yo ⟨r,l,rfl⟩))
    rw[oG s.nd l] at this;exact this w
   refine p _ _ (lJ 2 rfl λR rr rx p=>?_);walk_at"wp";refine⟨⟨k,_,rfl,f⟩,?_⟩;walk_at"wp";refine cG (eN.mp i) λv hv=>?_;refine⟨k,_,n,v,rfl,f,rfl,szL (by rw[pv];exact z457 F),hv,?_⟩;walk_at"wp";refine p _ _ ?_;rw[yK];refine S B V _ ?_;exact ph (p1.trans p2) U
 ·simp only[bT];walk_at"wp";refine(?_:wpEs Φ [_] _ _ _);walk_at"wp";exact⟨szL (by simp),rx _ _ _ (O (λz=>by rw[mP.mpr z] at i;cases i) _ (af _))⟩
end
section
open PySem
noncomputable def usr (L:List Row) (n:Int):List Int:=(L.filter λr=>r.2.needs.contains n).map al
theorem xS {L:List Row}{n:Int}:usr L n=[]↔¬ Usd L n:=by unfold usr Usd;rw[nE,List.filter_eq_nil_iff];simp
theorem Ay {Φ:Fun}(cd:pc "_law_needs" Φ){i e:Nat}{L:List Row}{n:Int}{H:Hp}{Q:PQ}(hi:H[i]?=some (.dicE (byR L) e)) (d:Sh 450 L) (h:∀H',H<+:H'->Q (.ref H'.length) (H'++[.list ((usr L n).map .int)])):wpF Φ vn [.ref i,.int n] H Q:=by
 have x:=d.len;refine⟨rfl,?_⟩;show wpSs Φ (vn.body.drop 0) [some (.ref i),some (.int n)] H (i6 Q);refine g5 0 rfl λR rr A=>?_;walk_at"wp";refine⟨i,_,e,rfl,hi,?_⟩;refine⟨by rw[ya,pv];exact szL (by exact z457 x),λt l H'=>H<+:H'/\l=(usr (L.take t) n).map .int,⟨af _,by simp[usr]⟩,?_⟩;intro t l H' a;refine c7 (a) λp f=>?_;clear a;subst f;have c:=dJ p hi;refine⟨c,λy s=>?_,λw=>?_⟩
 ·have v:(byR L).map (λp=>AV.int p.1)=L.map λr=>AV.int r.1:=by simp[byR,Function.comp_def]
  rw[v,aq] at s;refine aK (yf s) λr o g=>?_;subst g;have m:=yc o;have gt:dget (byR L) r.1=some (roP r):=by have:=oF d.nd (yo ⟨r,m,rfl⟩);rw[oG d.nd m] at this;exact this.1
  have u:usr (L.take (t+1)) n=if r.2.needs.contains n then usr (L.take t) n++[r.1] else usr (L.take t) n:=by
   unfold usr;rw[cM,o,jI,aQ];split
   ·rename_i j;rw[show((some r).toList).filter (λr=>r.2.needs.contains n)=[r] from f8 j];rfl
   ·rename_i j;rw[show((some r).toList).filter (λr=>r.2.needs.contains n)=[] from f9 j];simp
  refine⟨[.int r.1],rfl,?_⟩;walk_at"wp";refine(show(jT (.ref i) (.int r.1) H' _) from ?_);have:∀{Q:PQ},Q (roP r) H'->jT (.ref i) (.int r.1) H' Q:=λ{Q} q=>by
   show asI (.int r.1) λk=>match H'[i]? with|some (.list l)=>idxL l k H' Q|some (.dict l)=>∃z,dget l k=some z/\Q z H'|some (.dicE l _)=>∃z,dget l k=some z/\Q z H'|none=>False
   rw[c];exact⟨_,gt,q⟩
  refine this ?_;walk_at"wp";refine cd 1 r.1 r.2 H' _ (d.ok r m) ?_;walk_at"wp";refine qo (K:=λb=>kCs Φ _ _ _ (.bool b) _) dG ?_;refine gC (K:=λb=>kCs Φ _ _ _ (.bool b) _) (λe=>?_) (λe=>?_)
  ·walk_at"wp";rw[if_pos trivial];walk_at"wp";exact⟨p.trans bR,by rw[u,if_pos e];simp⟩
  ·walk_at"wp";exact⟨p.trans bR,by rw[u,if_neg (by rw[e];decide)]⟩
 ·rw[be (by rw[w];simp[byR])];walk_at"wp";exact rr _ _ _ (h H' p)
def tU (Φ:Fun):Prop:=∀(i:Nat) (L:List Row) (n:Int) (H:Hp) (Q:PQ),H[i]?=some (.dict (byR L))->Sh 450 L->(∀H' j,H<+:H'->H.length<=j->H'[j]?=some (.list ((usr L n).map .int))->Q (.ref j) H')->Φ "_law_users" [.ref i,.int n] H Q
theorem Gs {P:PEnv}{d:Nat}{L:List Row}{n:Int}{Q:PQ}(hi:H[i]?=some (.dict (byR L))) (h:∀H' j,H<+:H'->H.length<=j->H'[j]?=some (.list ((usr L n).map .int))->Q (.ref j) H')
  (c:∀e a,(∀H',H.set i (.dicE (byR L) e)<+:H'->a (.ref H'.length) (H'++[.list ((usr L n).map .int)]))->g6 P d "_law_users" [.ref i,.int n] (H.set i (.dicE (byR L) e)) a XF):g6 P d "_law_users" [.ref i,.int n] H Q XF:=by
 have b:i<H.length:=(ym hi).1;refine GF hi λe=>c e _ λH' p=>?_;have g:(H.set i (.dicE (byR L) e))[i]?=some (.dicE (byR L) e):=lS hi;have p2:=p.trans (bR (H:=H') (t:=[.list ((usr L n).map .int)]));refine⟨dJ p2 g,?_⟩;have pl:H.length<=H'.length:=by have:=p.length_le;rwa [bh] at this
 refine h _ _ ?_ pl ?_
 ·have:=ph (k:=i) (o:=.dict (byR L)) p2 (by rw[bh];exact b)
  rwa [qr,pP hi] at this
 ·rw[i7 (by exact z474 b pl)];exact dG
end
section
open PySem
def Bad (v:AV):Prop:=(∀l,v≠.tup l)\/v=.tup []\/∃rs,v=slA rs/\RsK 1 rs/\wr 0 [] rs≠none
theorem wG (h:∀l,v≠.tup l):isi H v .tuple=false:=by
 cases v with
 | tup l=>exact absurd rfl (h l)
 | ref i=>rfl
 | _=>rfl
theorem Bad.no (h:Bad v):NoSl H v:=by
 rcases h with h|rfl|h
 ·exact .inl (.inl (wG h))
 ·exact .inl (.inr rfl)
 ·exact .inr h
def Wd (w:Str) (H:Hp) (Q:PQ):Prop:=∀(H':Hp) (j:Nat),H<+:H'->H.length<=j->H'[j]?=some (.list [.str w])->Q (.ref j) H'
def tf (i:Nat) (L rs:List Row) (H:Hp) (Q:PQ):Prop:=∀(H':Hp) (j:Nat),H.set i (.dict (byR (rs.foldl insR L)))<+:H'->H.length<=j->H'[j]?=some (.list ((nws L rs).map .int))->Q (.tup [.ref j]) H'
theorem DN (k:wY Φ){L:List Row}{Q:PQ}(hi:H[i]?=some (.dict (byR L))) (n:L.length<=450) (h:(∃rs,v=slA rs/\Sl rs/\tf i L rs H Q)\/(Bad v/\Wd "NotHeld" H Q)):wpF Φ vC [.ref i,v] H Q:=by
 refine⟨rfl,?_⟩;show wpSs Φ (vC.body.drop 0) [some (.ref i),some v,none,none] H (i6 Q);refine g5 0 rfl λR rr c=>?_;rcases h with⟨rs,rfl,f,h⟩|⟨g,h⟩
 ·have a:=f.rk.2.1;have ne:rs.length≠0:=λz=>f.rk.1 (bI.mp z);simp only[slA];walk_at"wp";simp only[lR,lQ,mh,mf,mj];walk_at"wp";refine⟨by rw[ya];exact z410 a,?_⟩;refine fR (K:=λb=>kOrB Φ _ _ _ _ b) (λe=>?_) (λe=>?_)
  ·exfalso;rw[ya] at e;lia
  ·walk_at"wp";refine k 1 rs H _ (by exact z413 a) f.rk.2.2.1 λl p1=>?_;walk_at"wp";refine y2 ?_;rw[f.wr];simp only[jx,bC];walk_at"wp";refine c _ _ (g5 1 rfl λR rr c=>?_);walk_at"wp";refine⟨by decide,?_⟩;refine c _ _ (g5 2 rfl λR rr c=>?_);refine yD (d:=.loc 0) (λo H' Q q=>by walk_at"wp";exact q) hi n a p1 λo H' r s=>?_;refine c _ _ (g5 3 rfl λR rr c=>?_);walk_at"wp";refine⟨ye rfl,?_⟩;exact rr _ _ _ (h _ _ r p1.length_le s)
 ·have fin:∀{H':Hp}{loc:Loc},H<+:H'->wpSs Φ [.ret (.lst [.cst (.str "NotHeld")])] loc H' R:=λ{H' loc} p=>by walk_at"wp";refine⟨by decide,?_⟩;exact rr _ _ _ (h _ _ (p.trans bR) p.length_le dG)
  rcases g with hv|rfl|⟨rs,rfl,j,m⟩
  ·walk_at"wp";rw[wG hv];simp only[bT];walk_at"wp";exact fin (af _)
  ·walk_at"wp";simp only[lR,lQ,mh,mf,mj];walk_at"wp";refine⟨by decide,?_⟩;exact fin (af _)
  ·have a:=j.2.1;have ne:rs.length≠0:=λz=>j.1 (bI.mp z);simp only[slA];walk_at"wp";simp only[lR,lQ,mh,mf,mj];walk_at"wp";refine⟨by rw[ya];exact z410 a,?_⟩;refine fR (K:=λb=>kOrB Φ _ _ _ _ b) (λe=>?_) (λe=>?_)
   ·exfalso;rw[ya] at e;lia
   ·walk_at"wp";refine k 1 rs H _ (by exact z413 a) j.2.2.1 λl p1=>?_;walk_at"wp";refine y2 ?_;rw[show(wr 0 [] rs).isNone=false by cases e:wr 0 [] rs with|none=>exact absurd e m|some _=>rfl];simp only[bT];walk_at"wp";exact fin p1
theorem Ei (h:tU Φ){L:List Row}{n:Int}{Q:PQ}(hi:H[i]?=some (.dict (byR L))) (g:Sh 450 L) (l:n∉L.map al->Wd "NoRow" H Q) (m:n∈L.map al->Usd L n->Wd "Needed" H Q)
  (o:n∈L.map al->¬ Usd L n->∀H',H.set i (.dict (byR (del L n)))<+:H'->Q (.tup [.none]) H'):wpF Φ vE [.ref i,.int n] H Q:=by
 have p:i<H.length:=(ym hi).1;have q:=g.len;refine⟨rfl,?_⟩;show wpSs Φ (vE.body.drop 0) [some (.ref i),some (.int n)] H (i6 Q);refine g5 0 rfl λR rr a=>?_;walk_at"wp";refine oE hi ?_;refine gC (K:=λb=>kIte Φ _ _ _ _ (.bool !b) _) (λc=>?_) (λc=>?_)
 ·have f:=mP.mp c;simp only[bC];walk_at"wp";refine a _ _ (g5 1 rfl λR rr a=>?_);walk_at"wp";refine h i L n H _ hi g λr j p1 s k=>?_;walk_at"wp";refine⟨by decide,?_⟩;refine ut (b:=[]) (dJ bR k) dG ?_;refine oY (K:=λb=>kIte Φ _ _ _ _ (.bool b) _) (λe=>?_) (λe=>?_)
  ·walk_at"wp";refine⟨by decide,?_⟩;refine rr _ _ _ (m f (Classical.byContradiction λz=>e (xS.mpr z)) _ _ (p1.trans (bR.trans bR)) ?_ dG);have:=p1.length_le;simp;exact c6 this
  ·walk_at"wp";refine a _ _ (g5 2 rfl λR rr a=>?_);have d:=dJ (p1.trans (bR (t:=[.list []]))) hi;walk_at"wp";refine⟨⟨i,_,rfl,d⟩,?_⟩;walk_at"wp";refine cG (eN.mp c) λv hv=>?_;refine⟨i,_,n,v,rfl,d,rfl,szL (by rw[pv];exact z457 q),hv,?_⟩;walk_at"wp";refine a _ _ (g5 3 rfl λR rr a=>?_);rw[yK];walk_at"wp";refine⟨by decide,?_⟩;exact rr _ _ _ (o f (xS.mp e) _ (ph (p1.trans bR) p))
 ·simp only[bT];walk_at"wp";refine⟨by decide,?_⟩;exact rr _ _ _ (l (λz=>by rw[mP.mpr z] at c;cases c) _ _ bR (az _) dG)
end
section
open PySem
theorem Srt.ex {L:List Row}(nd:(L.map al).Nodup):∃rs,Srt L rs:=by have f:=List.mergeSort_perm (L.map al) λa b=>decide (a<=b);have g:=List.pairwise_mergeSort (le:=λa b=>decide (a<=b)) (λa b c d e=>by simp only[decide_eq_true_eq] at d e ⊢;exact ai d e) (λa b=>by simp only[fS,decide_eq_true_eq];exact z475) (L.map al);exact⟨_,Srt.of nd f (g.imp λ{a b} z=>by simpa using z)⟩
theorem Gj {Q:PQ}{l:List Int}(a:H[j]?=some (.list (l.map .int))) (h:Q (.bool !(l.contains q)) H):kt .notIn (.int q) (.ref j) H Q :=
 qo (K:=λb=>Q (.bool !b) H) a h
theorem Da {Φ:Fun}(cn:pc "_law_needs" Φ){rs L:List Row}{n:Int}{o4:Option AV}{H H0:Hp}{R:PF}{m i f:Nat}{F W:List Int}(l:RR rs) (tr:∀r∈rs,∀q∈r.2.needs,q<r.1) (hg:∀r∈rs,dget (byR L) r.1=some (roP r)) (hn:n∈rs.map al) (i1:H0.length<=i) (i2:H0.length<=f) (o:i≠f) (U:m≠i) (J:m≠f)
  (sk:Seek rs n F W) (lt:∀q∈F,q<n) (hW:W≠[]) (p:H0<+:H) (gb:H[m]?=some (.dict (byR L))) (gf:H[i]?=some (.list ((n::F).map .int))) (gw:H[f]?=some (.list (W.map .int))) (wl:W.length<=460)
  (h:∀c j s H',Seek rs n c j->(∀q∈c,q<n)->rs.length-c.length+j.length<rs.length-F.length+W.length->H0<+:H'->H'[m]?=some (.dict (byR L))->H'[i]?=some (.list ((n::c).map .int))->H'[f]?=some (.list (j.map .int))->R .next [some (.ref m),some (.int n),some (.ref i),some (.ref f),s] H') :
  wpS Φ (.forr false [4] .plain [.call "_law_needs" [.idx (.loc 0) (.meth .pop (.loc 3) [])]] [.ite (.cmp .notIn (.loc 4) (.loc 2)) [.expr (.meth .append (.loc 2) [.loc 4]),
    .expr (.meth .append (.loc 3) [.loc 4])] []]) [some (.ref m),some (.int n),some (.ref i),some (.ref f),o4] H R:=by
 obtain⟨j,x,rfl⟩:∃j x,W=j++[x]:=⟨W.dropLast,W.getLast hW,(fp hW).symm⟩;refine eT (sk.pop l hn) λr T v si=>?_;subst v;have hl:=l.len;have fl:=sk.len;have d:H[f]?=some (.list (j.map .int++[.int r.1])):=by rw[gw];simp
 rw[aC,fv] at wl;have Y:r.1<=n:=by
  rcases si.here.2 with z|z
  ·exact Int.le_of_eq z
  ·have:=lt _ z;exact aj this
 walk_at"wp";refine⟨mr d,?_⟩;refine tZ d (by rw[ya];exact z452 wl) ?_;generalize k:H.set f (.list (j.map .int))=u;have D:u[m]?=some (.dict (byR L)):=by rw[<-k,i7 (Ne.symm J)];exact gb
 have E:u[i]?=some (.list ((n::F).map .int)):=by rw[<-k,i7 (Ne.symm o)];exact gf
 have G:u[f]?=some (.list (j.map .int)):=by rw[<-k];exact lS gw
 have p1:H0<+:u:=by rw[<-k];exact lU p i2
 have Z:f<u.length:=(ym G).1;have P:i<u.length:=(ym E).1;walk_at"wp";rw[oN D];refine⟨_,hg r T,?_⟩;walk_at"wp";refine cn 1 r.1 r.2 u _ (l.ok r T) ?_;walk_at"wp";rw[oB dG];refine lC (λt loc H'=>∃(c a:List Int) (s:Option AV),SeekIn rs n r t c a/\(∀q∈c,q<n)/\c.length+j.length=F.length+a.length/\H0<+:H'/\H'[m]?=some (.dict (byR L))/\H'[i]?=some (.list ((n::c).map .int))/\H'[f]?=some (.list (a.map .int))/\H'[u.length]?=some (.list (r.2.needs.map .int)) /\
  loc=[some (.ref m),some (.int n),some (.ref i),some (.ref f),s]) ⟨F,j,o4,si,lt,rfl,p1.trans bR,dJ bR D,dJ bR E,dJ bR G,dG,rfl⟩ ?_
 intro t loc H' I;refine lG (I) λc a s s' C N V M=>?_;clear I;refine oh (M) λA g d B O=>?_;clear M;subst O;have w:=s'.len;refine⟨B,λy hy=>?_,λht=>?_⟩
 ·rw[aq] at hy;refine aK (yf hy) λq S v=>?_;subst v;have X:=tr r T q (yc S);refine⟨[.int q],rfl,?_⟩;walk_at"wp";refine Gj g ?_;refine gC (K:=λb=>kIte Φ _ _ _ _ (.bool !b) _) (λe=>?_) (λe=>?_)
  ·simp only[bC];walk_at"wp";have Q:q∈c:=by
    have:q=n\/q∈c:=by simpa using e
    rcases this with z|z
    ·lia
    ·exact z
   exact jG ⟨c,a,_,s'.old S Q,C,N,V,A,g,d,B,rfl⟩
  ·simp only[bT];have Q:q∉c:=λz=>by
    have:¬ (q=n\/q∈c):=by simpa using e
    exact this (.inr z)
   walk_at"wp";refine⟨mr g,?_⟩;refine pe g (by simp;exact z476 hl w) ?_;have g1:(H'.set i (.list ((n::c).map .int++[.int q])))[f]?=some (.list (a.map .int)):=by rw[i7 o];exact d
   walk_at"wp";refine⟨mr g1,?_⟩;refine pe g1 (by rw[ya];exact z454 wl hl N w) ?_;walk_at"wp";refine jG ⟨c++[q],a++[q],_,s'.new l S Q,λz hz=>?_,by simp;exact z455 N,lU (lU V i1) i2,?_,?_,?_,?_,rfl⟩
   ·rcases yd hz with z'|z'
    ·exact C z z'
    ·rw[yb z'];exact bL X Y
   ·rw[i7 (Ne.symm J),i7 (Ne.symm U)];exact A
   ·rw[i7 (Ne.symm o),lS g];simp
   ·refine(lS (o':=.list (a.map .int)) ?_).trans (by simp);rw[i7 o];exact d
   ·rw[i7 (by exact bM Z),i7 (by exact bM P)];exact B
 ·refine h c a _ H' (s'.fin (by rw[ht];simp)) C ?_ V A g d;simp only[aC,fv];exact z456 N w
theorem F_ {L rs:List Row}{n:Int}{F ms:List Int}(i:Sh N L) (s:Srt L rs) (m:n∈L.map al) (sk:Seek rs n F []) (p:∀q∈F,q<n) (f:ms.Perm (n::F)) (o:ms.Pairwise (·<=·)):IsPt L n (ms.map (ju L)):=by
 have sub:∀q∈ms,q∈L.map al:=λq g=>by
  rcases yg (f.mem_iff.mp g) with z|z
  ·rw[z];exact m
  ·exact((s.1.map al).mem_iff).mp (sk.num q z)
 have e:(ms.map (ju L)).map al=ms:=by rw[cE];have:ms.map (al∘ju L)=ms.map id:=cF λk l=>(oF i.nd (sub k l)).2;rw[this,mY]
 have nd:ms.Nodup:=f.nodup_iff.mpr (fo.mpr ⟨λz=>by have:=p n z;exact z468 this,sk.nd⟩);refine⟨?_,λr=>?_⟩
 ·rw[e];exact(o.and nd).imp λ{a b} z=>by have:=z.2;exact jt.mpr z
 ·constructor
  ·intro d;refine aK (yh d) λq g c=>?_;subst c;refine aK (yh (sub q g)) λx j c=>?_;subst c;rw[oG i.nd j];refine⟨j,?_⟩;rcases yg (f.mem_iff.mp g) with z|z
   ·exact .inl z
   ·exact .inr ((sk.rch _ z).mono λr d=>s.1.mem_iff.mp d)
  ·rintro⟨d,h⟩;refine yo ⟨r.1,f.mem_iff.mpr ?_,oG i.nd d⟩;rcases h with z|z
   ·rw[z];exact aR ..
   ·exact yi _ (sk.all (z.mono λr d=>s.1.mem_iff.mpr d))
theorem part {Φ:Fun}(cn:pc "_law_needs" Φ){i:Nat}{L:List Row}{n:Int}{H:Hp}{Q:PQ}(hi:H[i]?=some (.dict (byR L))) (c:Sh 450 L) (h1:n∉L.map al->Wd "NoRow" H Q) (h2:n∈L.map al->∀H' Z,H<+:H'->IsPt L n Z->Q (.tup [slA Z]) H'):wpF Φ u7 [.ref i,.int n] H Q:=by
 have ll:=c.len;have U:i<H.length:=(ym hi).1;refine cG (Srt.ex c.nd) λrs s=>?_;have k:=s.rr c (az _);have w:=k.len;refine⟨rfl,?_⟩;show wpSs Φ (u7.body.drop 0) [some (.ref i),some (.int n),none,none,none] H (i6 Q);refine g5 0 rfl λR rr a=>?_;walk_at"wp";refine oE hi ?_;refine gC (K:=λb=>kIte Φ _ _ _ _ (.bool !b) _) (λv=>?_) (λv=>?_)
 ·have y:=mP.mp v;simp only[bC];walk_at"wp";refine a _ _ (g5 1 rfl λR rr a=>?_);walk_at"wp";refine⟨ye rfl,?_⟩;refine a _ _ (g5 2 rfl λR rr a=>?_);walk_at"wp";refine⟨ye rfl,?_⟩;generalize d:H++[AObj.list [AV.int n]]=h;have M:h.length=H.length+1:=by rw[<-d];simp
  have D:h[H.length]?=some (.list ((n::[]).map .int)):=by rw[<-d];exact dG
  have p1:H<+:h:=by rw[<-d];exact bR
  refine a _ _ (g5 3 rfl λR rr a=>?_);refine oy (λt loc H'=>∃(F W:List Int) (Y:Option AV),Seek rs n F W/\(∀q∈F,q<n)/\rs.length-F.length+W.length=t/\t<=rs.length+1/\H<+:H'/\H'[i]?=some (.dict (byR L))/\H'[H.length]?=some (.list ((n::F).map .int))/\H'[h.length]?=some (.list (W.map .int)) /\
   loc=[some (.ref i),some (.int n),some (.ref H.length),some (.ref h.length),Y]) _ ⟨[],[n],none,Seek.start,(λq z=>by cases z),rfl,by simp,p1.trans bR,dJ (p1.trans bR) hi,dJ bR D,dG,rfl⟩ ?_
  intro t loc H' j;refine lG (j) λF W Y sk V u wl m=>?_;clear j;refine oh (m) λp gb S T A=>?_;clear m;subst A;have P:=sk.len;walk_at"wp";rw[rY T];refine⟨by rw[ya];exact z477 w u wl,?_⟩;walk_at"wp";refine fR (K:=λb=>kWhl Φ _ _ _ _ _ (.bool b) _) (λf=>?_) (λf=>?_)
  ·simp only[k_whl,k_whlt,ss_cons];have G:W≠[]:=λz=>by rw[z] at f;simp at f
   refine Da (H0:=H) (L:=L) cn k (λr g q J=>((c.tru r (s.1.mem_iff.mp g)).needs q J).2.2.2) (λr g=>by
    have g:=s.1.mem_iff.mp g;have:=oF c.nd (yo ⟨r,g,rfl⟩);rw[oG c.nd g] at this;exact this.1) (((s.1.map al).mem_iff).mpr y) (az _) (by exact kg (id (Eq.symm M))) (by exact z459 M) (by exact bM U) (by exact z478 U M) sk V G p gb S T (by exact z461 w u wl) λF' W' a2 a0 o N l p' B C E=>?_
   have a1:=o.len;simp only[thenS_next,ss_nil];exact nX _ (by exact eE l u) ⟨F',W',_,o,N,rfl,by exact z462 u wl l,p',B,C,E,rfl⟩
  ·have f:W=[]:=by
    cases W with
    | nil=>rfl
    | cons=>simp at f
   subst f;walk_at"wp";refine a _ _ (g5 4 rfl λR rr a=>?_);walk_at"wp";refine x7 S (by simp;exact z479 w P) λms I hs=>?_;walk_at"wp";rw[oB dG];have sub:∀q∈ms,q∈L.map al:=λq J=>by
    rcases yg (I.mem_iff.mp J) with z|z
    ·rw[z];exact y
    ·exact((s.1.map al).mem_iff).mp (sk.num q z)
   have X:ms.length<=1000:=by rw[I.length_eq];simp;exact z476 w P
   refine ze AV.int (λx=>roP (ju L x)) ms (szL X) (λH' p=>dJ p dG) (λO p2 x hx=>?_) λO p2=>?_
   ·refine⟨[.int x],rfl,λQ' q'=>?_⟩;walk_at"wp";rw[oN (dJ (bR.trans p2) gb)];exact⟨_,(oF c.nd (sub x hx)).1,q' O kU⟩
   ·walk_at"wp";refine pi dG (by rw[ya];exact X) ?_;walk_at"wp";refine⟨ye rfl,?_⟩;refine rr _ _ _ ?_;have e:AV.tup (ms.map λx=>roP (ju L x))=slA (ms.map (ju L)):=by unfold slA;rw[cE];rfl
    rw[e];exact h2 y _ _ (p.trans (bR.trans (p2.trans bR))) (F_ c s y sk V I hs)
 ·simp only[bT];walk_at"wp";refine⟨by decide,?_⟩;exact rr _ _ _ (h1 (λz=>by rw[mP.mpr z] at v;cases v) _ _ bR (az _) dG)
end
section
open PySem
noncomputable def hdS (c:Str):Option (List Str):=if c = "NotHeld" then some ["NotHeld"] else if c = "NoRow" then some ["NoRow"] else if c = "Needed" then some ["Needed"] else none
theorem Di:hdS "NotHeld" = some [("NotHeld" : Str)]:=by decide+kernel
theorem wA:hdS "NoRow" = some [("NoRow" : Str)]:=by decide+kernel
theorem Dj:hdS "Needed" = some [("Needed" : Str)]:=by decide+kernel
theorem rR {w:Str}{Q:PQ}(e:hdS w=some [w]) (h:Wd w H Q):∀H',H<+:H'->∃l,hdS w=some l/\Q (.ref H'.length) (H'++[.list (l.map .str)]):=λH' p=>⟨[w],e,h _ _ (p.trans bR) p.length_le dG⟩
theorem uc {R:mL}{Q:PQ}(h:R [.obj k,v] H (λv H'=>Q (.tup [v]) H') λc H'=>∃l,hdS c=some l/\Q (.ref H'.length) (H'++[.list (l.map .str)])) :
  wpSs Φ [.tryM [2] (.loc 0) [.loc 1] R hdS] [some (.obj k),some v,none] H (endX Q XF):=by
 rw[ss_cons];refine⟨λi hi=>by rw[yb hi];rfl,?_⟩;walk_at"wp";exact h
theorem DO {L:List Row}{Q:PQ}(c:H[k]?=some (.dict (byR L))) (d:L.length<=450) (h:(∃rs,v=slA rs/\Sl rs/\tf k L rs H Q)\/(Bad v/\Wd "NotHeld" H Q)):wpFX Φ (y4 RPut hdS) [.obj k,v] H Q XF:=by
 refine⟨rfl,uc ⟨k,L,v,rfl,c,d,?_⟩⟩;rcases h with⟨rs,e,f,h⟩|⟨a,h⟩
 ·exact .inl ⟨rs,e,f,λH' j p b g=>h H' j p b g⟩
 ·exact .inr ⟨a.no,rR Di h⟩
theorem EF {L:List Row}{n:Int}{Q:PQ}(d:H[k]?=some (.dict (byR L))) (e:Sh 450 L) (a:n∉L.map al->Wd "NoRow" H Q) (b:n∈L.map al->Usd L n->Wd "Needed" H Q)
  (c:n∈L.map al->¬ Usd L n->∀H',H.set k (.dict (byR (del L n)))<+:H'->Q (.tup [.none]) H'):wpFX Φ (zn qB hdS) [.obj k,.int n] H Q XF :=
 ⟨rfl,uc ⟨k,L,n,rfl,d,e,λz=>rR wA (a z),λz u=>rR Dj (b z u),c⟩⟩
theorem EQ {L:List Row}{n:Int}{Q:PQ}(d:H[k]?=some (.dict (byR L))) (e:Sh 450 L) (b:n∉L.map al->Wd "NoRow" H Q) (c:n∈L.map al->∀H' a,H<+:H'->IsPt L n a->Q (.tup [slA a]) H'):wpFX Φ (zo qC hdS) [.obj k,.int n] H Q XF :=
 ⟨rfl,uc ⟨k,L,n,rfl,d,e,c,λz=>rR wA (b z)⟩⟩
end
section
open PySem
noncomputable def prD (p:Int×Int):PyData:=.tuple [.int p.1,.int p.2]
theorem xF {ρ:Nat->Option PyData}:∀{ps:List (Int×Int)},datRs ρ (ps.map prAV)=some (ps.map prD)/\cP (ps.map prD) (ps.map prD)=true/\bo (ps.map prD)<=3
 | []=>⟨rfl,rfl,by simp[bo]⟩
 | p::ps=>by
  refine fT (xF (ρ:=ρ) (ps:=ps)) λa b c=>?_;refine⟨?_,?_,?_⟩
  ·simp only[aF,datRs,a,prAV,datR,fH,dT,prD]
  ·simp only[aF,cP,b,prD,bu,beq_self_eq_true,jF]
  ·simp only[aF,bo,prD,bS];exact z480 c
theorem BC {ρ:Nat->Option PyData}(n:Int) (f:Fc):∃d,datR ρ (roA n f)=some d/\bu d d=true/\d.depth<=8:=by
 cases f with
 | prime b ps =>
  refine fT (xF (ρ:=ρ) (ps:=ps)) λc e g=>?_;refine⟨.tuple [.int n,.str "prime",.tuple [.int b,.tuple (ps.map prD)]],?_,?_,?_⟩
  ·simp only[roA,Fc.word,Fc.facts,psT,datR,datRs,c,fH,dT]
  ·simp only[bu,cP,e,beq_self_eq_true,jF]
  ·simp only[bS,bo];exact z481 g
 | first=>exact⟨.tuple [.int n,.str "first",.tuple []],rfl,by simp[bu,cP],by simp[bS,bo]⟩
 | split a b=>exact⟨.tuple [.int n,.str "split",.tuple [.int a,.int b]],rfl,by simp[bu,cP],by simp[bS,bo]⟩
 | power b=>exact⟨.tuple [.int n,.str "power",.tuple [.int b]],rfl,by simp[bu,cP],by simp[bS,bo]⟩
 | root b=>exact⟨.tuple [.int n,.str "root",.tuple [.int b]],rfl,by simp[bu,cP],by simp[bS,bo]⟩
theorem xI {ρ:Nat->Option PyData}:∀(l:List Row),∃a,datRs ρ (l.map roP)=some a/\cP a a=true/\bo a<=9
 | []=>⟨[],rfl,rfl,by simp[bo]⟩
 | r::l=>by
  refine eT (xI (ρ:=ρ) l) λa b c e=>?_;refine eT (BC (ρ:=ρ) r.1 r.2) λd k1 k2 k3=>?_;refine⟨d::a,?_,?_,?_⟩
  ·simp only[aF,roP,datRs,k1,fH];rw[show datRs ρ (l.map roP)=some a from b];rfl
  ·simp only[cP,c,k2,jF]
  ·simp only[bo];exact z482 e k3
theorem B_ {ρ:Nat->Option PyData}(s:List Row):∃d,datR ρ (slA s)=some d/\bu d d=true/\d.depth<=10:=by refine eT (xI (ρ:=ρ) s) λa b c e=>?_;refine⟨.tuple a,?_,c,by simp only[bS];exact cL e⟩;show(datRs ρ (s.map roP)).map lL=_;rw[b];rfl
inductive Res where|word (w:Str)|nums (l:List Int)|non|rows (rs:List Row)
inductive ResV (n:Nat) (H:Hp):Res->AV->Prop
 | word {w:Str}{j:Nat}(h:n<=j) (g:H[j]?=some (.list [.str w])):ResV n H (.word w) (.ref j)
 | nums {l:List Int}{j:Nat}(h:n<=j) (g:H[j]?=some (.list (l.map .int))):ResV n H (.nums l) (.tup [.ref j])
 | non:ResV n H .non (.tup [.none])
 | rows {rs:List Row}:ResV n H (.rows rs) (.tup [slA rs])
theorem DS {n:Nat}{H:Hp}{r:Res}{v:AV}(h:ResV n H r v):∃d,(∀m a,ResV m H r a->dat H a=some d)/\bu d d=true/\d.depth<=100:=by
 cases h with
 | @word w j _ g =>
  refine⟨.list [.str w],λm a h'=>?_,by simp[bu,cP],by simp[bS,bo]⟩;cases h' with
  | @word _ j' _ g' =>
   show(match H[j']? with|some (.list l)=>(datRs (rho H 3) l).map PyData.list|_=>none)=_;rw[g'];rfl
 | @nums l j _ g =>
  refine⟨.tuple [.list (l.map .int)],λm a h'=>?_,by simp[bu,cP,uM],?_⟩
  ·cases h' with
   | @nums _ j' _ g' =>
    show(datRs (rho H 4) [.ref j']).map lL=_;simp only[datRs];rw[show datR (rho H 4) (.ref j')=some (.list (l.map .int)) from uL g'];rfl
  ·have:bo (l.map mQ)<=1:=by
    clear g
    induction l with
    | nil=>simp[bo]
    | cons x r ih=>simp only[aF,bo,bS];exact String.Pos.Raw.mk_le_mk.mp ih
   simp only[bS,bo];exact z483 this
 | non=>exact⟨.tuple [.none],λm a h'=>by cases h';rfl,by simp[bu,cP],by simp[bS,bo]⟩
 | @rows rs =>
  refine eT (B_ (ρ:=rho H 4) rs) λd b c e=>?_;refine⟨.tuple [d],λm a h'=>?_,by simp[bu,cP,c],by simp only[bS,bo];exact z484 e⟩;cases h';show(datRs (rho H 4) [slA rs]).map lL=_;simp only[datRs,b,fH,dT]
theorem xv {n:Nat}{K:Bool->Prop}{r:Res}{a:AV}(h:ResV n H r v) (h':ResV m H r a) (q:K true):wpEq v a H K:=by refine eT (DS h) λd b c e=>?_;have k1:=b _ _ h;have k2:=b _ _ h';have:eqD v a H K:=⟨d,d,k1,k2,e,by rw[c];exact q⟩;cases h<;>exact this
theorem qh {n:Nat}{Q:PQ}{r:Res}{a:AV}(h:ResV n H r v) (h':ResV m H r a) (q:Q (.bool false) H):kt .ne v a H Q:=xv (K:=λb=>Q (.bool !b) H) h h' q
theorem wn {n:Nat}{Q:PQ}{r:Res}{a:AV}(h:ResV n H r v) (h':ResV m H r a) (q:Q (.bool true) H):kt .eq v a H Q:=xv (K:=λb=>Q (.bool b) H) h h' q
theorem ResV.grow {n:Nat}{H':Hp}{r:Res}(p:H<+:H') (h:ResV n H r v):ResV n H' r v:=by
 cases h with
 | word h g=>exact .word h (dJ p g)
 | nums h g=>exact .nums h (dJ p g)
 | non=>exact .non
 | rows=>exact .rows
theorem ResV.set {n:Nat}{H':Hp}{o:AObj}{r:Res}(a:k<n) (p:H.set k o<+:H') (h:ResV n H r v):ResV n H' r v:=by
 cases h with
 | word h g=>exact .word h (dJ p (by rw[i7 (by exact z474 a h)];exact g))
 | nums h g=>exact .nums h (dJ p (by rw[i7 (by exact z474 a h)];exact g))
 | non=>exact .non
 | rows=>exact .rows
def To (k:Nat) (L':List Row) (r:Res) (H:Hp) (Q:PQ):Prop:=∀(H':Hp) (w:AV),H.set k (.dict (byR L'))<+:H'->ResV H.length H' r w->Q w H'
inductive PutR (L:List Row) (v:AV):Res->List Row->Prop
 | ok {rs:List Row}(e:v=slA rs) (s:Sl rs):PutR L v (.nums (nws L rs)) (rs.foldl insR L)
 | bad (b:Bad v):PutR L v (.word "NotHeld") L
def pG (f:Str) (mk:Nat->AV) (Φ:Fun):Prop:=∀(k:Nat) (L:List Row) (v:AV) (r:Res) (L':List Row) (H:Hp) (Q:PQ),H[k]?=some (.dict (byR L))->L.length<=450->PutR L v r L'->To k L' r H Q->Φ f [mk k,v] H Q
theorem v8 {L c:List Row}{r:Res}{Q:PQ}(d:H[k]?=some (.dict (byR L))) (h:PutR L v r c) (q:To k c r H Q):(∃rs,v=slA rs/\Sl rs/\tf k L rs H Q)\/(Bad v/\Wd "NotHeld" H Q):=by
 cases h with
 | ok e s=>exact .inl ⟨_,e,s,λH' j p a g=>q H' _ p (.nums a g)⟩
 | bad b=>exact .inr ⟨b,λH' j p a g=>q H' _ (by rw[pP d];exact p) (.word a g)⟩
def Thg (v:AV):Prop:=Bad v\/∃rs,v=slA rs/\Sl rs
theorem FD {rs L:List Row}(h:∀r∈rs,r.1∈L.map al):rs.foldl insR L=L:=by
 induction rs with
 | nil=>rfl
 | cons r rs ih =>
  have:insR L r=L:=by unfold insR;rw[if_pos (mP.mpr (h r (by simp)))]
  rw[iT,this];exact ih λx a=>h x (yi _ a)
theorem PutR.ex {L:List Row}(h:Thg v) (c:Sh N L):∃r a,PutR L v r a/\Sh (N+63) a/\∃f,PutR a v f a:=by
 rcases h with b|⟨rs,e,s⟩
 ·exact⟨_,_,.bad b,c.up (by exact z485),_,.bad b⟩
 ·refine⟨_,_,.ok e s,c.put s,.nums (nws (rs.foldl insR L) rs),?_⟩;have:=PutR.ok (L:=rs.foldl insR L) e s
  rwa [FD (L:=rs.foldl insR L) λr d=>uE.mpr (.inr (yo ⟨r,d,rfl⟩))] at this
inductive DropR (L:List Row) (n:Int):Res->List Row->Prop
 | no (h:n∉L.map al):DropR L n (.word "NoRow") L
 | need (h:n∈L.map al) (u:Usd L n):DropR L n (.word "Needed") L
 | ok (h:n∈L.map al) (u:¬ Usd L n):DropR L n .non (del L n)
theorem DropR.ex {L:List Row}{n:Int}(a:Sh N L):∃r b,DropR L n r b/\Sh N b:=by
 by_cases h:n∈L.map al
 ·by_cases u:Usd L n
  ·exact⟨_,_,.need h u,a⟩
  ·exact⟨_,_,.ok h u,a.drop λr c z=>u ⟨r,c,z⟩⟩
 ·exact⟨_,_,.no h,a⟩
def p9 (f:Str) (mk:Nat->AV) (Φ:Fun):Prop:=∀(k:Nat) (L:List Row) (n:Int) (r:Res) (L':List Row) (H:Hp) (Q:PQ),H[k]?=some (.dict (byR L))->Sh 450 L->DropR L n r L'->To k L' r H Q->Φ f [mk k,.int n] H Q
theorem qe {L b:List Row}{n:Int}{r:Res}{Q:PQ}(c:H[k]?=some (.dict (byR L))) (h:DropR L n r b) (q:To k b r H Q) :
  (n∉L.map al->Wd "NoRow" H Q)/\(n∈L.map al->Usd L n->Wd "Needed" H Q)/\(n∈L.map al->¬ Usd L n->∀H',H.set k (.dict (byR (del L n)))<+:H'->Q (.tup [.none]) H'):=by
 cases h with
 | no h=>exact⟨λ_ H' j p a g=>q H' _ (by rw[pP c];exact p) (.word a g),λz=>absurd z h,λz=>absurd z h⟩
 | need h u=>exact⟨λz=>absurd h z,λ_ _ H' j p a g=>q H' _ (by rw[pP c];exact p) (.word a g),λ_ z=>absurd u z⟩
 | ok h u=>exact⟨λz=>absurd h z,λ_ z=>absurd z u,λ_ _ H' p=>q H' _ p .non⟩
inductive PartR (L:List Row) (n:Int):Res->Prop
 | no (h:n∉L.map al):PartR L n (.word "NoRow")
 | ok {pt:List Row}(h:n∈L.map al) (p:IsPt L n pt):PartR L n (.rows pt)
theorem PartR.uniq {L:List Row}{n:Int}{r a:Res}(c:Sh N L) (h:PartR L n r) (h':PartR L n a):r=a:=by
 cases h with
 | no h=>cases h' with|no h'=>rfl|ok h' _=>exact absurd h' h
 | ok h p=>cases h' with|no h'=>exact absurd h h'|ok h' b=>rw[p.uniq c.nd b]
def pJ (f:Str) (mk:Nat->AV) (Φ:Fun):Prop:=∀(k:Nat) (L:List Row) (n:Int) (H:Hp) (Q:PQ),H[k]?=some (.dict (byR L))->Sh 450 L->(∀r H' w,PartR L n r->H<+:H'->ResV H.length H' r w->Q w H')->Φ f [mk k,.int n] H Q
theorem rZ {L:List Row}{n:Int}{Q:PQ}(q:∀r H' w,PartR L n r->H<+:H'->ResV H.length H' r w->Q w H'):(n∉L.map al->Wd "NoRow" H Q)/\(n∈L.map al->∀H' a,H<+:H'->IsPt L n a->Q (.tup [slA a]) H') :=
 ⟨λz H' j p b g=>q _ H' _ (.no z) p (.word b g),λz H' a p c=>q _ H' _ (.ok z c) p .rows⟩
structure St (H0:Hp) (k i:Nat) (A B:List Row) (H:Hp):Prop where
 ne:k≠i
 kl:k<H0.length
 il:i<H0.length
 p:(H0.set k (.dict (byR A))).set i (.dict (byR B))<+:H
section
variable {H0 H H':Hp}{k i:Nat}{A A' B B':List Row}
theorem St.len (s:St H0 k i A B H):H0.length<=H.length:=by have:=s.p.length_le;rwa [bh,bh] at this
theorem St.atI (s:St H0 k i A B H):H[i]?=some (.dict (byR B)):=dJ s.p (by rw[fg (by rw[bh];exact s.il)])
theorem St.atK (s:St H0 k i A B H):H[k]?=some (.dict (byR A)):=dJ s.p (by rw[i7 (Ne.symm s.ne),fg s.kl])
theorem St.at {o:AObj}(s:St H0 k i A B H) (a:j≠k) (b:j≠i) (h:H0[j]?=some o):H[j]?=some o:=dJ s.p (by rw[i7 (Ne.symm b),i7 (Ne.symm a)];exact h)
theorem St.grow (s:St H0 k i A B H) (p:H<+:H'):St H0 k i A B H':=⟨s.ne,s.kl,s.il,s.p.trans p⟩
theorem St.setI (s:St H0 k i A B H) (p:H.set i (.dict (byR B'))<+:H'):St H0 k i A B' H':=⟨s.ne,s.kl,s.il,by
 have:=ph (k:=i) (o:=.dict (byR B')) s.p (by rw[bh,bh];exact s.il);rw[qr] at this;exact this.trans p⟩
theorem St.setK (s:St H0 k i A B H) (p:H.set k (.dict (byR A'))<+:H'):St H0 k i A' B H':=⟨s.ne,s.kl,s.il,by
 have:=ph (k:=k) (o:=.dict (byR A')) s.p (by rw[bh,bh];exact s.kl);rw[List.set_comm _ _ (Ne.symm s.ne),qr] at this;exact this.trans p⟩
theorem St.start (a:H[k]?=some (.dict (byR A))) (hi:H[i]?=some (.dict (byR B))) (ne:k≠i):St H k i A B H :=
 ⟨ne,(ym a).1,(ym hi).1,by rw[pP a,pP hi];exact af _⟩
theorem St.setO {o:AObj}(s:St H0 k i A B H) (a:H0.length<=j):St H0 k i A B (H.set j o):=⟨s.ne,s.kl,s.il,lU s.p (by rw[bh,bh];exact a)⟩
end
end
section
open PySem
def rE (Φ:Fun):Prop:=∀(i:Nat) (L:List Row) (c:Int) (H:Hp) (Q:PQ),H[i]?=some (.dict (byR L))->L.length<=450->0<=c->(∀n H',H<+:H'->Q (.int n) H')->Φ "_law_some" [.ref i,.int c] H Q
theorem ER {L:List Row}{c:Int}{Q:PQ}(hi:H[i]?=some (.dict (byR L))) (g:L.length<=450) (l:0<=c) (h:∀n H',H<+:H'->Q (.int n) H'):wpF Φ u8 [.ref i,.int c] H Q:=by
 refine⟨rfl,?_⟩;show wpSs Φ (u8.body.drop 0) [some (.ref i),some (.int c),none] H (i6 Q);refine g5 0 rfl λR rr a=>?_;walk_at"wp";refine uv hi (by rw[pv];exact z470 g) λms j m=>?_;have f:ms.length<=450:=by rw[j.length_eq,rb,ya];exact g
 walk_at"wp";refine a _ _ (g5 1 rfl λR rr a=>?_);walk_at"wp";refine oP dG (by rw[ya];exact z457 f) ?_;walk_at"wp";refine fR (K:=λb=>kOrB Φ _ _ _ _ b) (λe=>?_) (λe=>?_)
 ·walk_at"wp";refine⟨by decide,mq (by decide),by decide,?_⟩;exact rr _ _ _ (h _ _ bR)
 ·rw[ya] at e;walk_at"wp";refine⟨by decide,?_⟩;refine fR (λ_=>?_) (λ_=>?_)
  ·walk_at"wp";refine⟨by decide,mq (by decide),by decide,?_⟩;exact rr _ _ _ (h _ _ bR)
  ·walk_at"wp";refine a _ _ (g5 2 rfl λR rr a=>?_);walk_at"wp";refine⟨by decide,mq (by decide),?_⟩;refine oP dG (by rw[ya];exact z457 f) ?_;walk_at"wp";rw[ya];refine⟨e,?_⟩;rw[gP (by exact z158)];refine n9 dG (by rw[ya];exact z457 f) (aT _ e) (by rw[ya];exact yk _ (by exact z486 e)) λz k=>?_;refine aK (yh k) λn _ d=>?_;subst d;walk_at"wp";exact rr _ _ _ (h _ _ bR)
theorem RsK.up1 {s:List Row}(h:RsK 0 s):RsK 1 s:=⟨h.1,h.2.1,λr a=>(h.2.2.1 r a).up (by decide),h.2.2.2⟩
theorem wX {rs:List Row}(h:RsK 1 rs):Thg (slA rs):=by
 cases e:wr 0 [] rs with
 | none=>exact .inr ⟨rs,rfl,h,e⟩
 | some k=>exact .inl (.inr (.inr ⟨rs,rfl,h,by rw[e];simp⟩))
def tT (Φ:Fun):Prop:=∀(ic:Nat) (cs:List Int) (H:Hp) (Q:PQ),H[ic]?=some (.list (cs.map .int))->nU cs 14->(∀v H',H<+:H'->Thg v->Q v H')->Φ "_law_thing" [.ref ic] H Q
theorem thing (r:uD Φ) (o:w_ Φ){ic:Nat}{cs:List Int}{Q:PQ}(b:H[ic]?=some (.list (cs.map .int))) (a:nU cs 14) (h:∀v H',H<+:H'->Thg v->Q v H'):wpF Φ vm [.ref ic] H Q:=by
 refine⟨rfl,?_⟩;show wpSs Φ (vm.body.drop 0) [some (.ref ic),none] H (i6 Q);refine g5 0 rfl λR rr d=>?_;walk_at"wp";refine r ic 14 cs H _ b a (by decide) (by decide) λrs ok=>?_;have k:=wR (by decide) ok;rw[<-wQ];generalize rs.map Rw.ro=w at k;have s:=k.2.1;walk_at"wp";refine d _ _ (g5 1 rfl λR rr d=>?_);walk_at"wp";refine lk (dJ bR b) a (by decide) (by decide) (by decide) λc i n=>?_;walk_at"wp";refine⟨by decide,?_⟩;refine fR (λ_=>?_) (λ_=>?_)
 ·walk_at"wp";refine lk (dJ bR b) a (by decide) (by decide) (by decide) λc i n=>?_;walk_at"wp";refine⟨by decide,mq (by decide),?_⟩;refine lk (dJ bR b) a (by decide) (by decide) (by decide) λm t x=>?_;walk_at"wp"
  (simp only[gP,jv,bV])
  refine o 0 _ w _ _ _ _ dG k (by decide) (by exact z324 i) t λj u H' p g f=>?_;walk_at"wp";refine pi g (by rw[ya];have:=f.2.1;exact z124 this) ?_;walk_at"wp";exact rr _ _ _ (h _ _ (bR.trans p) (wX f))
 ·walk_at"wp";refine d _ _ (g5 2 rfl λR rr d=>?_);walk_at"wp";refine lk (dJ bR b) a (by decide) (by decide) (by decide) λc i n=>?_;walk_at"wp";refine⟨by decide,?_⟩;refine fR (λ_=>?_) (λ_=>?_)
  ·walk_at"wp";refine⟨by decide,ye rfl,?_⟩;refine lk (dJ (bR.trans bR) b) a (by decide) (by decide) (by decide) λc i n=>?_;walk_at"wp";refine⟨by decide,mq (by decide),by decide,?_⟩
   (simp only[gP,jv,bV])
   refine n9 dG (by(first|exact ye rfl|simp)) (aT _ (by decide)) (by(first|exact yk _ (by decide)|(simp;lia))) λz q=>?_;walk_at"wp";refine rr _ _ _ (h _ _ (bR.trans bR) (.inl ?_));simp only[cA,cJ,or_false] at q;rcases q with rfl|rfl|rfl|rfl|rfl|rfl
   ·exact .inl λl e=>by cases e
   ·exact .inr (.inl rfl)
   ·exact .inl λl e=>by cases e
   ·exact .inl λl e=>by cases e
   ·exact .inl λl e=>by cases e
   ·exact .inl λl e=>by cases e
  ·walk_at"wp";refine d _ _ (g5 3 rfl λR rr d=>?_);walk_at"wp";refine pi dG (by rw[ya];exact z124 s) ?_;walk_at"wp";exact rr _ _ _ (h _ _ bR (wX k.up1))
end
section
open PySem
theorem ET {a b l:List Int}(d:a.Perm l) (e:b.Perm l) (nd:l.Nodup) (g:a.Pairwise (·<=·)) (h:b.Pairwise (·<=·)):a=b:=by
 have up:∀{c:List Int},c.Perm l->c.Pairwise (·<=·)->c.Pairwise (·<·):=λ{c} f i=>(i.and (f.nodup_iff.mpr nd)).imp λ{x y} z=>by have:=z.2;exact jt.mpr z
 exact wD (up d g) (up e h) λq=>by rw[d.mem_iff,e.mem_iff]
theorem xq (h:H[j]?=some (.list l)):isi H (.ref j) .list=true:=by show(match H[j]? with|some (.list _)=>true|_=>false)=true;rw[h]
theorem DC {L:List Row}{n:Int}{Q:PQ}(q:Q (.bool false) H):kt .ne (on L n) (on L n) H Q:=by
 unfold on;split
 ·split
  ·exact(by rw[c_neS];simpa using q)
  ·exact(by rw[c_neS];simpa using q)
 ·exact⟨.none,.none,rfl,rfl,by simp[bS],by simpa [bu] using q⟩
abbrev tX:List MS:=[.ite (.cmp .eq (.loc 4) (.cst (.int 0))) [.asg 5 (.mcl "Shelf.numbers" (.loc 0) []),
   .ite (.or2 (.not (.isi (.loc 5) .list)) (.cmp .ne (.loc 5) (.bi .sorted [.loc 1]))) [.ret (.cst (.bool false))] [],
   .expr (.meth .append (.loc 5) [.cst (.int 1)])] [.ite (.cmp .eq (.loc 4) (.cst (.int 1))) [.asg 6 (.cst .none),
    .ite (.cmp .isin (.loc 2) (.loc 1)) [.asg 6 (.idx (.lst [.cst (.str "parted"),.cst (.str "prime")]) (.bi .int [.call "_law_tells" [.idx (.loc 1) (.loc 2)]]))] [],
    .ite (.cmp .ne (.mcl "Shelf.told" (.loc 0) [.loc 2]) (.loc 6)) [.ret (.cst (.bool false))] []] [.asg 5 (.call "_law_slip" [.loc 0,.loc 2]),
    .ite (.cmp .ne (.loc 5) (.call "_law_part" [.loc 1,.loc 2])) [.ret (.cst (.bool false))] [],
    .ite (.and2 (.isi (.loc 5) .tuple) (.not (.call "lets_by" [.idx (.loc 5) (.cst (.int 0))]))) [.ret (.cst (.bool false))] []]]]
def tQ (Φ:Fun):Prop:=∀(k i:Nat) (L:List Row) (n c:Int) (H:Hp) (Q:PQ),H[k]?=some (.dict (byR L))->H[i]?=some (.dict (byR L))->Sh 450 L->0<=c->(∀H',H<+:H'->Q (.bool true) H')->Φ "_law_looks" [.obj k,.ref i,.int n,.int c] H Q
theorem Gh (N:pW Φ) (q:rG Φ) (O:pK "_law_tells" Φ) (p:pJ "_law_slip" .obj Φ) (cpt:pJ "_law_part" .ref Φ) (M:pV Φ){L:List Row}{n c w:Int}{E U:Option AV}{R:PF}
  (s:H[k]?=some (.dict (byR L))) (hi:H[i]?=some (.dict (byR L))) (d:Sh 450 L) (m:∀H' I J,H<+:H'->R .next [some (.obj k),some (.ref i),some (.int n),some (.int c),some (.int w),I,J] H') :
  wpSs Φ tX [some (.obj k),some (.ref i),some (.int n),some (.int c),some (.int w),E,U] H R:=by
 have D:=d.len;unfold tX;walk_at"wp";refine fR (λ_=>?_) (λ_=>?_)
 ·walk_at"wp";refine N k L H _ s D λms e j B S p2 Q f=>?_;walk_at"wp";rw[xq f];simp only[bC];walk_at"wp";refine uv (dJ p2 hi) (by rw[pv];exact z470 D) λT h u=>?_;rw[rb] at h;walk_at"wp";refine ut (dJ bR f) dG ?_;rw[decide_eq_true (ET B h d.nd S u)];simp only[bC];walk_at"wp";refine⟨mr (dJ bR f),?_⟩;refine pe (dJ bR f) (by rw[ya,B.length_eq,ya];lia) ?_;walk_at"wp";exact m _ _ _ (lU (p2.trans bR) Q)
 ·walk_at"wp";refine fR (λ_=>?_) (λ_=>?_)
  ·have a:∀e,H<+:e->wpSs Φ [.ite (.cmp .ne (.mcl "Shelf.told" (.loc 0) [.loc 2]) (.loc 6)) [.ret (.cst (.bool false))] []] [some (.obj k),some (.ref i),some (.int n),some (.int c),some (.int w),E,some (on L n)] e R:=λe p2=>by walk_at"wp";refine q k L n e _ (dJ p2 s) d.nd ?_;walk_at"wp";refine DC ?_;walk_at"wp";exact m _ _ _ p2
   walk_at"wp";refine wC (K:=λb=>kIte Φ _ _ _ _ (.bool b) _) hi ?_;refine gC (K:=λb=>kIte Φ _ _ _ _ (.bool b) _) (λo=>?_) (λo=>?_)
   ·refine c7 (oF d.nd (mP.mp o)) λP f=>?_;walk_at"wp";refine⟨by decide,?_⟩;rw[oN (dJ bR hi)];refine⟨_,P,?_⟩;walk_at"wp";refine O (ju L n).1 (ju L n).2 _ _ ?_;walk_at"wp";have fin:=a _ (bR (t:=[.list [.str "parted",.str "prime"]]));unfold on at fin;rw[o,if_pos rfl] at fin;cases C:(ju L n).2.tells with
    | true =>
     rw[C,if_pos rfl] at fin;exact oO (l:=[.str "parted",.str "prime"]) (z:=.str "prime") (qU (by show(match (_:Option AObj) with|some (.list l)=>some l|_=>none)=_;rw[dG])) (by decide) (by decide) rfl fin
    | false =>
     rw[C,if_neg (by decide)] at fin;exact oO (l:=[.str "parted",.str "prime"]) (z:=.str "parted") (qU (by show(match (_:Option AObj) with|some (.list l)=>some l|_=>none)=_;rw[dG])) (by decide) (by decide) rfl fin
   ·walk_at"wp";have fin:=a _ (af _);unfold on at fin;rw[o,if_neg (by decide)] at fin;walk_at"wp";exact fin
  ·walk_at"wp";refine p k L n H _ s d λr e v F p2 y=>?_;walk_at"wp";refine cpt i L n e _ (dJ p2 hi) d λX V Y x p3 A=>?_;have:=F.uniq d x;subst this;walk_at"wp";refine qh (y.grow p3) A ?_;walk_at"wp";cases F with
   | no hn =>
    cases y with
    | word _ g =>
     simp only[lR,lQ,mh,mf,mj];walk_at"wp";exact m _ _ _ (p2.trans p3)
   | ok hn ip =>
    cases y with
    | rows =>
     have G:=d.part hn ip;simp only[lR,lQ,mh,mf,mj];walk_at"wp";refine⟨by simp[ag],?_⟩;refine uF M G.rk λW p4=>?_;rw[G.wr];simp only[jx];walk_at"wp";exact m _ _ _ (p2.trans (p3.trans p4))
theorem zX {Φ:Fun}(E:pW Φ) (m:rG Φ) (F:pK "_law_tells" Φ) (j:pJ "_law_slip" .obj Φ) (cpt:pJ "_law_part" .ref Φ) (D:pV Φ){k i:Nat}{L:List Row}{n c:Int}{H:Hp}{Q:PQ}
  (G:H[k]?=some (.dict (byR L))) (hi:H[i]?=some (.dict (byR L))) (K:Sh 450 L) (N:0<=c) (h:∀H',H<+:H'->Q (.bool true) H'):wpF Φ vg [.obj k,.ref i,.int n,.int c] H Q:=by
 refine⟨rfl,?_⟩;show wpSs Φ (vg.body.drop 0) [some (.obj k),some (.ref i),some (.int n),some (.int c),none,none,none] H (i6 Q);refine g5 0 rfl λR rr A=>?_;have all:∀(r:Nat) (l:List AV) (e:Hp),H<+:e->e[r]?=some (.list l)->(∀x∈l,∃w,x=.int w)->wpIt .plain [.ref r] e (forI Φ false [4] tX [some (.obj k),some (.ref i),some (.int n),some (.int c),none,none,none] R):=λr l e p1 g I=>by
  rw[oB g];refine lC (λt loc H'=>∃u v z,e<+:H'/\loc=[some (.obj k),some (.ref i),some (.int n),some (.int c),u,v,z]) ⟨none,none,none,af _,rfl⟩ ?_;intro t loc H' f;refine nS (f) λu v z p q=>?_;clear f;subst q;refine⟨dJ p g,λy J=>?_,λO=>?_⟩
  ·refine cG (I y (yc J)) λw o=>?_;subst o;refine⟨[.int w],rfl,?_⟩;exact Gh E m F j cpt D (dJ (p1.trans p) G) (dJ (p1.trans p) hi) K λM B C p2=>jG ⟨_,B,C,p.trans p2,rfl⟩
  ·refine A _ _ (g5 1 rfl λR rr A=>?_);walk_at"wp";exact rr _ _ _ (h _ (p1.trans p))
 have d:∀{a b c:Int},∀x∈[AV.int a,.int b,.int c],∃w,x=.int w:=λ{a b c} x s=>by simp only[cA,cJ,or_false] at s;rcases s with rfl|rfl|rfl<;>exact⟨_,rfl⟩
 walk_at"wp";refine⟨by decide,by decide,by decide,by decide,ye rfl,by decide,?_⟩;rw[gP (by decide)];refine De dG (aT _ (by decide)) (yk _ (by decide)) ?_ ?_ ?_ ?_
 ·walk_at"wp";exact all _ _ _ (bR.trans (bR.trans (bR.trans (bR.trans bR)))) (dJ (bR.trans (bR.trans (bR.trans bR))) dG) d
 ·walk_at"wp";exact all _ _ _ (bR.trans (bR.trans (bR.trans (bR.trans bR)))) (dJ (bR.trans (bR.trans bR)) dG) d
 ·walk_at"wp";exact all _ _ _ (bR.trans (bR.trans (bR.trans (bR.trans bR)))) (dJ (bR.trans bR) dG) d
 ·walk_at"wp";exact all _ _ _ (bR.trans (bR.trans (bR.trans (bR.trans bR)))) (dJ bR dG) d
def we (Φ:Fun):Prop:=∀(k i:Nat) (L:List Row) (H:Hp) (Q:PQ),H[k]?=some (.dict (byR L))->H[i]?=some (.dict (byR L))->Sh 450 L->(∀H',H<+:H'->Q (.bool true) H')->Φ "_law_all_so" [.obj k,.ref i] H Q
theorem DB {L:List Row}(c:Sh N L) (h:q∈L.map al):2<=q/\on L q=if isPB q.toNat then .str "prime" else .str "parted" := by refine aK (yh h) λr b a=>?_;subst a;refine⟨(c.ok r b).2.1,?_⟩;unfold on;rw[if_pos (mP.mpr h),oG c.nd b,(c.tru r b).tells]
theorem AC {Φ:Fun}(f:rG Φ) (c:SIsP Φ){k i:Nat}{L:List Row}{H:Hp}{Q:PQ}(v:H[k]?=some (.dict (byR L))) (hi:H[i]?=some (.dict (byR L))) (l:Sh 450 L) (h:∀H',H<+:H'->Q (.bool true) H'):wpF Φ vv [.obj k,.ref i] H Q:=by
 have x:=l.len;refine⟨rfl,?_⟩;show wpSs Φ (vv.body.drop 0) [some (.obj k),some (.ref i),none] H (i6 Q);refine g5 0 rfl λR rr s=>?_;walk_at"wp";refine uv hi (by rw[pv];exact z470 x) λms p z=>?_;rw[rb] at p;walk_at"wp";rw[oB dG];refine lC (λt loc H'=>∃o,H'=H++[.list (ms.map .int)]/\loc=[some (.obj k),some (.ref i),o]) ⟨none,rfl,rfl⟩ ?_;intro t loc H' d;refine aK (d) λo g a=>?_;clear d;subst g;subst a;refine⟨dG,λy r=>?_,λA=>?_⟩
 ·rw[aq] at r;refine aK (yf r) λq w a=>?_;subst a;refine c7 (DB l (p.mem_iff.mp (yc w))) λj u=>?_;refine⟨[.int q],rfl,?_⟩;walk_at"wp";refine fR (K:=λb=>pY Φ _ _ _ _ b) (λe=>?_) (λe=>?_)
  ·walk_at"wp";refine f k L q _ _ (dJ bR v) l.nd ?_;rw[u];have m:(q:Int)=((q.toNat:Nat):Int):=by exact z487 j
   cases n:isPB q.toNat with
   | true =>
    rw[if_pos rfl];walk_at"wp";rw[m];refine c q.toNat _ _ (by exact z488 j) (by exact z489 e) ?_;rw[n];walk_at"wp";rw[show(("prime" : Str) == "prime")=true by decide+kernel];simp only[beq_self_eq_true,bC];walk_at"wp";exact jG ⟨_,rfl,rfl⟩
   | false =>
    rw[if_neg (by decide)];walk_at"wp";rw[m];refine c q.toNat _ _ (by exact z488 j) (by exact z489 e) ?_;rw[n];walk_at"wp";rw[show(("parted" : Str) == "prime")=false by decide+kernel];simp only[beq_self_eq_true,bC];walk_at"wp";exact jG ⟨_,rfl,rfl⟩
  ·walk_at"wp";exact jG ⟨_,rfl,rfl⟩
 ·refine s _ _ (g5 1 rfl λR rr s=>?_);walk_at"wp";exact rr _ _ _ (h _ bR)
end
section
open PySem
theorem St.trans {H0 H':Hp}{A A' B B':List Row}(s:St H0 k i A B H) (s':St H k i A' B' H'):St H0 k i A' B' H':=⟨s.ne,s.kl,s.il,by
 have p1:=ph (k:=k) (o:=.dict (byR A')) s.p (by rw[bh,bh];exact s.kl);rw[List.set_comm _ _ (Ne.symm s.ne),qr] at p1;have p2:=ph (k:=i) (o:=.dict (byR B')) p1 (by rw[bh,bh];exact s.il);rw[qr] at p2;exact p2.trans s'.p⟩
def vO (op:COp) (b:Bool):Prop:=∀{n m:Nat}{H:Hp}{Q:PQ}{r:Res}{v v':AV},ResV n H r v->ResV m H r v'->Q (.bool b) H->kt op v v' H Q
theorem sV (cd:p9 "_law_drop" .obj Φ) (cdd:p9 "_law_drop_due" .ref Φ){op:COp}{b:Bool}(c:vO op b){H0:Hp}{L:List Row}{n:Int}{e:ME}{loc:Loc}{Q:PQ}(s:St H0 k i L L H) (f:Sh N L) (l:N<=450)
  (p:∀H' h,Φ "_law_drop_due" [.ref i,.int n] H' h->wpE Φ e loc H' h) (q:∀a H',Sh N a->St H0 k i a a H'->Q (.bool b) H'):Φ "_law_drop" [.obj k,.int n] H (qE Φ op e loc Q):=by
 refine kB (DropR.ex (n:=n) f) λr a j g=>?_;refine cd k L n r a H _ s.atK (f.up l) j λm w p1 t=>?_;rw[k_cmp1];have s1:=s.setK p1;refine p _ _ (cdd i L n r a m _ s1.atI (f.up l) j λo u p2 d=>?_);rw[k_cmp2];exact c (t.set (ah s.il s.len) p2) d (q a o g (s1.setI p2))
theorem yB (cp:pG "_law_put" .obj Φ) (cpd:pG "_law_put_due" .ref Φ){op:COp}{b:Bool}(c:vO op b){H0:Hp}{L a:List Row}{r:Res}{e:ME}{loc:Loc}{Q:PQ}(s:St H0 k i L L H) (g:L.length<=450) (h:PutR L v r a)
  (m:∀H' f,Φ "_law_put_due" [.ref i,v] H' f->wpE Φ e loc H' f) (q:∀H',St H0 k i a a H'->Q (.bool b) H'):Φ "_law_put" [.obj k,v] H (qE Φ op e loc Q):=by
 refine cp k L v r a H _ s.atK g h λj w p1 n=>?_;rw[k_cmp1];have s1:=s.setK p1;refine m _ _ (cpd i L v r a j _ s1.atI g h λl o p2 d=>?_);rw[k_cmp2];exact c (n.set (ah s.il s.len) p2) d (q l (s1.setI p2))
def tm (Φ:Fun):Prop:=∀(N k i ic:Nat) (L:List Row) (cs:List Int) (H:Hp) (Q:PQ),Sh N L->N+63<=450->H[k]?=some (.dict (byR L))->H[i]?=some (.dict (byR L))->k≠i->ic≠k->ic≠i->H[ic]?=some (.list (cs.map .int))->nU cs 14->(∀L' H',Sh (N+63) L'->St H k i L' L' H'->Q (.bool true) H')->Φ "_law_deed" [.obj k,.ref i,.ref ic] H Q
section
variable {Φ:Fun}(cp:pG "_law_put" .obj Φ) (cpd:pG "_law_put_due" .ref Φ) (cd:p9 "_law_drop" .obj Φ) (cdd:p9 "_law_drop_due" .ref Φ) (cpt:pJ "_law_part" .ref Φ){N k i ic:Nat}{L:List Row}{cs:List Int}{H:Hp}
include cp cpd
theorem Eg (o:tT Φ){R:PF}(B:Sh N L) (p:N+63<=450) (E:H[ic]?=some (.list (cs.map .int))) (n:nU cs 14) (s:St H k i L L H) (h:∀loc d H',Sh (N+63) d->St H k i d d H'->R (.ret (.bool true)) loc H') :
  wpSs Φ [.asg 3 (.call "_law_thing" [.loc 2]),
  .asg 4 (.call "_law_put_due" [.loc 1,.loc 3]),
  .asg 5 (.call "_law_put" [.loc 0,.loc 3]),
  .ite (.cmp .ne (.loc 5) (.loc 4)) [.ret (.cst (.bool false))] [],
  .ite (.and2 (.isi (.loc 5) .tuple) (.isi (.idx (.loc 5) (.cst (.int 0))) .list)) [.expr (.meth .append (.idx (.loc 5) (.cst (.int 0))) [.cst (.int 0)])] [],
  .ret (.cmp .eq (.call "_law_put" [.loc 0,.loc 3]) (.call "_law_put_due" [.loc 1,.loc 3]))] [some (.obj k),some (.ref i),some (.ref ic),none,none,none,none,none,none,none] H R:=by
 have z:=B.len;have F:=s.kl;walk_at"wp";refine o ic cs H _ E n λv C p1 J=>?_;refine eX (PutR.ex J B) λr d u l j=>?_;refine cG (j) λS w=>?_;clear j;have s1:=s.grow p1;walk_at"wp";refine cpd i L v r d C _ s1.atI (by exact z490 p z) u λD K p2 x=>?_;have y:=s1.setI p2;walk_at"wp";refine cp k L v r d D _ y.atK (by exact z490 p z) u λO M p3 f=>?_;have A:=y.setK p3;walk_at"wp";refine qh f (x.set (ah F s1.len) p3) ?_;have fin:∀m,St H k i d d m->wpSs Φ [.ret (.cmp .eq (.call "_law_put" [.loc 0,.loc 3]) (.call "_law_put_due" [.loc 1,.loc 3]))] [some (.obj k),some (.ref i),some (.ref ic),some v,some K,some M,none,none,none,none] m R:=λm G=>by have t:=l.len;walk_at"wp";refine yB cp cpd (λa b c=>wn a b c) G (by exact aa t p) w (λH' Q q=>by walk_at"wp";exact q) λP I=>?_;walk_at"wp";exact h _ _ _ l I
 cases u with
 | @ok rs e sl =>
  cases f with
  | nums hj g =>
   walk_at"wp";simp only[lR,lQ,mh,mf,mj];walk_at"wp";refine⟨by simp[ag],?_⟩;rw[xq g];walk_at"wp";refine⟨by simp[ag],?_⟩;refine⟨mr g,?_⟩;refine pe g (by rw[ya];have:=xC (L:=L) (rs:=rs);have:=sl.rk.2.1;lia) ?_;simp only[k_exp,thenS_next,ss_nil];exact fin _ (A.setO (aa y.len hj))
 | bad b =>
  cases f with
  | word hj g =>
   walk_at"wp";simp only[lR,lQ,mh,mf,mj];simp only[k_and,k_andf,k_ite,k_itef,thenS_next,ss_nil];exact fin _ A
include cd cdd
theorem Ef {Q:PQ}{n:Int}{g:List Row}{t u:Option AV}{H0:Hp}(o:Sh N L) (l:N+63<=450) (B:Sl g) (v:H0[ic]?=some (.list (cs.map .int))) (w:ic≠k) (x:ic≠i) (f:nU cs 14) (s:St H0 k i L L H) (h:∀e H',Sh (N+63) e->St H0 k i e e H'->Q (.bool true) H') :
  wpSs Φ (rj.body.drop 8) [some (.obj k),some (.ref i),some (.ref ic),none,none,none,some (.int n),t,u,some (.tup [slA g])] H (i6 Q):=by
 have y:=o.len;refine g5 8 rfl λR rr m=>?_;walk_at"wp";refine⟨by simp[ag],?_⟩;refine eX (PutR.ex (.inr ⟨g,rfl,B⟩) o) λr e z d _=>?_;refine yB cp cpd (λa b c=>qh a b c) s (by exact z490 l y) z (λH' p q=>by(walk_at"wp";refine⟨by simp[ag],?_⟩);exact q) λC s1=>?_;walk_at"wp";refine m _ _ (g5 9 rfl λR rr m=>?_);walk_at"wp";refine lk (s1.at w x v) f (by decide) (by decide) (by decide) λc F G=>?_;walk_at"wp";refine⟨by decide,?_⟩;refine fR (K:=λb=>kOrB Φ _ _ _ _ b) (λ_=>?_) (λ_=>?_)
 ·walk_at"wp";exact rr _ _ _ (h _ _ d s1)
 ·walk_at"wp";refine sV cd cdd (λa b c=>wn a b c) s1 d l (λH' p q=>by walk_at"wp";exact q) λE D j A=>?_;walk_at"wp";exact rr _ _ _ (h _ _ j A)
include cpt
theorem Fw {Q:PQ}{n:Int}{x y:Option AV}{H0:Hp}(m:Sh N L) (p:N+63<=450) (t:H0[ic]?=some (.list (cs.map .int))) (u:ic≠k) (v:ic≠i) (d:nU cs 14) (s:St H0 k i L L H) (h:∀o H',Sh (N+63) o->St H0 k i o o H'->Q (.bool true) H') :
  wpSs Φ (rj.body.drop 5) [some (.obj k),some (.ref i),some (.ref ic),none,none,none,some (.int n),x,y,none] H (i6 Q):=by
 have G:=m.len;refine g5 5 rfl λR rr e=>?_;walk_at"wp";refine cpt i L n H _ s.atI (m.up (by exact dC p)) λr A I z p1 w=>?_;walk_at"wp";refine e _ _ (g5 6 rfl λR rr e=>?_);walk_at"wp";refine sV cd cdd (λa b c=>qh a b c) (s.grow p1) m (by exact dC p) (λH' D q=>by walk_at"wp";exact q) λC B f l=>?_;walk_at"wp";refine e _ _ (g5 7 rfl λR rr e=>?_);walk_at"wp";refine lk (l.at u v t) d (by decide) (by decide) (by decide) λc E F=>?_;walk_at"wp";refine⟨by decide,?_⟩;have j:=f.up (show N<=N+63 by exact z485);refine fR (K:=λb=>kOrB Φ _ _ _ _ b) (λ_=>?_) (λ_=>?_)
 ·walk_at"wp";exact rr _ _ _ (h _ _ j l)
 ·cases z with
  | no hn =>
   cases w with
   | word hj g =>
    walk_at"wp";simp only[lR,lQ,bT];walk_at"wp";exact rr _ _ _ (h _ _ j l)
  | ok hn ip =>
   cases w with
   | rows =>
    walk_at"wp";simp only[lR,lQ,bC];walk_at"wp";exact e _ _ (Ef cp cpd cd cdd f p (m.part hn ip) t u v d l h)
theorem deed (A:tT Φ) (z:rE Φ) (cu:tU Φ){Q:PQ}(x:Sh N L) (l:N+63<=450) (M:H[k]?=some (.dict (byR L))) (hi:H[i]?=some (.dict (byR L))) (ne:k≠i) (i1:ic≠k) (i2:ic≠i) (v:H[ic]?=some (.list (cs.map .int))) (e:nU cs 14) (h:∀d H',Sh (N+63) d->St H k i d d H'->Q (.bool true) H') :
  wpF Φ rj [.obj k,.ref i,.ref ic] H Q:=by
 have ll:=x.len;have s:=St.start M hi ne;refine⟨rfl,?_⟩;show wpSs Φ (rj.body.drop 0) [some (.obj k),some (.ref i),some (.ref ic),none,none,none,none,none,none,none] H (i6 Q);refine g5 0 rfl λR rr f=>?_;walk_at"wp";refine lk v e (by decide) (by decide) (by decide) λc J c1=>?_;walk_at"wp";refine⟨by decide,?_⟩;refine fR (λ_=>?_) (λ_=>?_)
 ·rw[k_itet];exact Eg cp cpd A x l v e s λloc d H' a b=>rr _ _ _ (h d H' a b)
 ·walk_at"wp";refine f _ _ (g5 1 rfl λR rr f=>?_);walk_at"wp";refine lk v e (by decide) (by decide) (by decide) λc J c1=>?_;walk_at"wp";refine z i L c H _ hi (by exact z490 l ll) J λn V p1=>?_;walk_at"wp";refine f _ _ (g5 2 rfl λR rr f=>?_);walk_at"wp";refine cu i L n V _ (dJ p1 hi) (x.up (by exact dC l)) λH2 j p2 K g2=>?_;have g:=p1.trans p2;have S:=s.kl;have P:=s.il;have w:=p1.length_le;walk_at"wp";refine f _ _ (g5 3 rfl λR rr f=>?_);walk_at"wp";refine sV cd cdd (λa b c=>qh a b c) (St.start (dJ g M) (dJ g hi) ne) x (by exact dC l) (λH' Z q=>by walk_at"wp";exact q) λX W E o=>?_;walk_at"wp";have g3:=o.at (j:=j) (by exact z491 K S w) (by exact z491 K P w) g2;have D:=(s.grow g).trans o;have U:=o.len;have T:=p2.length_le;refine f _ _ (g5 4 rfl λR rr f=>?_);walk_at"wp";refine⟨by decide,?_⟩;refine oM g3 ?_;have ul:(usr L n).length<=450:=by unfold usr;rw[ya];have:=iX (λr:Row=>r.2.needs.contains n) L;lia
  walk_at"wp";refine⟨szL (by rw[ya];exact z457 ul),?_⟩;rw[lT];generalize gm (usr L n) none (some 2)=G;walk_at"wp";rw[oB dG];have a3:=dJ (bR (t:=[.list (G.map .int)])) o.atK;have b3:=dJ (bR (t:=[.list (G.map .int)])) o.atI;refine lC (λt loc H'=>∃d I,Sh N d/\St (W++[.list (G.map .int)]) k i d d H'/\loc=[some (.obj k),some (.ref i),some (.ref ic),none,none,none,some (.int n),some (.ref j),I,none]) ⟨X,none,E,St.start a3 b3 ne,rfl⟩ ?_;intro t loc H' m;refine eX (m) λd I p s' C=>?_;clear m;subst C;refine⟨s'.at (by exact z492 S w U T) (by exact z492 P w U T) dG,λy O=>?_,λht=>?_⟩
  ·rw[aq] at O;refine aK (yf O) λu hu B=>?_;subst B;refine⟨[.int u],rfl,?_⟩;walk_at"wp";refine sV cd cdd (λa b c=>qh a b c) s' p (by exact dC l) (λH' Z q=>by walk_at"wp";exact q) λY H4 F s4=>?_;walk_at"wp";exact jG ⟨Y,_,F,s4,rfl⟩
  ·exact f _ _ (Fw cp cpd cd cdd cpt p l v i1 i2 e ((D.grow bR).trans s') h)
end
end
section
open PySem
structure LInv (N:Nat) (F:Nat->List Row) (H:Hp):Prop where
 sh:∀t,t<2->Sh N (F t)
 a:∀t,t<2->H[t]?=some (.dict (byR (F t)))
 b:∀t,t<2->H[3+t]?=some (.dict (byR (F t)))
 o:H[2]?=some (.list [.obj 0,.obj 1])
 d:H[5]?=some (.list [.ref 3,.ref 4])
theorem LInv.grow {F:Nat->List Row}{H':Hp}(h:LInv N F H) (p:H<+:H'):LInv N F H' :=
 ⟨h.sh,λt z=>dJ p (h.a t z),λt z=>dJ p (h.b t z),dJ p h.o,dJ p h.d⟩
theorem LInv.st {M:Nat}{F:Nat->List Row}{H':Hp}{L:List Row}(h:LInv N F H) (f:t<2) (i:N<=M) (j:Sh M L) (s:St H t (3+t) L L H'):∃g,LInv M g H':=by
 refine⟨λx=>if x=t then L else F x,λx c=>?_,λx c=>?_,λx c=>?_,s.at (by exact Ne.symm (bM f)) (by exact z493) h.o,s.at (by exact z494 f) (by exact z495 f) h.d⟩
 ·show Sh M (if x=t then L else F x);split
  ·exact j
  ·exact(h.sh x c).up i
 ·show _=some (AObj.dict (byR (if x=t then L else F x)));split
  ·rename_i e;rw[e];exact s.atK
  ·rename_i e;exact s.at e (by exact z496 c) (h.a x c)
 ·show _=some (AObj.dict (byR (if x=t then L else F x)));split
  ·rename_i e;rw[e];exact s.atI
  ·rename_i e;exact s.at (by exact z497 f) (by exact z498 e) (h.b x c)
theorem LInv.objAt {F:Nat->List Row}{Q:PQ}(h:LInv N F H) (a:t<2) (q:Q (.obj t) H):jT (.ref 2) (.int t) H Q:=by
 refine oO (l:=[.obj 0,.obj 1]) (z:=.obj t) (qU (by show(match H[2]? with|some (.list l)=>some l|_=>none)=_;rw[h.o])) (by decide) (by exact z158) ?_ q;rw[cx]
 match t,a with
 | 0,_=>rfl
 | 1,_=>rfl
theorem wm {Q:PQ}(h:H[5]?=some (.list [.ref 3,.ref 4])) (a:t<2) (q:Q (.ref (3+t)) H):jT (.ref 5) (.int t) H Q:=by
 refine oO (l:=[.ref 3,.ref 4]) (z:=.ref (3+t)) (qU (by show(match H[5]? with|some (.list l)=>some l|_=>none)=_;rw[h])) (by decide) (by exact z158) ?_ q;rw[cx]
 match t,a with
 | 0,_=>rfl
 | 1,_=>rfl
theorem LInv.refAt {F:Nat->List Row}{Q:PQ}(h:LInv N F H) (a:t<2) (q:Q (.ref (3+t)) H):jT (.ref 5) (.int t) H Q:=wm h.d a q
def Ai (Φ:Fun):Prop:=∀(k:Nat) (L rs:List Row) (H:Hp) (Q:PQ),H[k]?=some (.dict (byR L))->L.length<=450->Sl rs->wN k L rs H Q->Φ "Shelf.put" [.obj k,slA rs] H Q
theorem five {l:List Int}:(gm l (some 12) (some 17)).length<=5:=by unfold gm kQ;simp only[b9,cK];exact z499
theorem EA {Φ:Fun}(cm:uC Φ) (M:tm Φ) (P:rE Φ) (O:tQ Φ){l:AV}{c:Int}{L Z a6 D:Option AV}{N s:Nat}{W:List AV}{F:Nat->List Row}{H:Hp}{R:PF}(inv:LInv N F H) (T:N+63<=450) (G:6<=s) (X:H[s]?=some (.list W))
  (hR:∀q H' b5 b6 b7,LInv (N+63) q H'->H'[s]?=some (.list W)->R .next [some l,some (.ref 2),some (.ref 5),L,some (.int c),b5,b6,b7] H') :
  wpSs Φ [.asg 5 (.call "_law_mixed" [.lst [.loc 4],.cst (.int 0),.cst (.int 14)]),
  .asg 6 (.bin .mod (.idx (.loc 5) (.cst (.int 12))) (.cst (.int 2))),
  .ite (.not (.call "_law_deed" [.idx (.loc 1) (.loc 6),.idx (.loc 2) (.loc 6),.loc 5])) [.ret (.cst (.bool false))] [],
  .forr false [7] .range [.cst (.int 2)] [.ite (.not (.call "_law_looks" [.idx (.loc 1) (.loc 7),.idx (.loc 2) (.loc 7),.call "_law_some" [.idx (.loc 2) (.loc 7),.bin .fdiv (.idx (.loc 5) (.cst (.int 13))) (.bin .add (.cst (.int 1)) (.loc 7))],.idx (.loc 5) (.cst (.int 13))])) [.ret (.cst (.bool false))] []]]
   [some l,some (.ref 2),some (.ref 5),L,some (.int c),Z,a6,D] H R:=by
 have I:s<H.length:=(ym X).1;walk_at"wp";refine⟨ye rfl,?_⟩;refine cm _ [c] 0 14 _ _ (by show(match (_:Option AObj) with|some (.list l)=>some l|_=>none)=_;rw[dG];rfl) (by decide) (by simp) (by decide) λcs cb=>?_;have g:=cb.up;generalize o:(H++[AObj.list [.int c]]).length=ic;have h:H.length<ic:=by rw[<-o];simp
 generalize k:H++[AObj.list [.int c]]++[AObj.list (cs.map .int)]=K;have E:K[ic]?=some (.list (cs.map .int)):=by rw[<-k,<-o];exact dG
 have p1:H<+:K:=by rw[<-k];exact bR.trans bR
 have f:=inv.grow p1;have w:=dJ p1 X;clear k o inv;walk_at"wp";refine lk E g (by decide) (by decide) (by decide) λx x0 x1=>?_;walk_at"wp";refine⟨by decide,?_⟩;rw[gP (by decide)];obtain⟨t,r,i⟩:∃t:Nat,t<2/\x%2=(t:Int):=⟨(x%2).toNat,by exact z500,by exact z501⟩;rw[i];walk_at"wp";refine f.objAt r ?_;walk_at"wp";refine f.refAt r ?_;walk_at"wp";refine M N t (3+t) ic (F t) cs K _ (f.sh t r) T (f.a t r) (f.b t r) (by exact z502) (by exact z503 I h i) (by exact z504 G I h i) E g λL' H2 C J=>?_;refine cG (f.st r (aY N 63) C J) λq B=>?_;have V:=J.at (j:=s) (by exact z505 G i) (by exact z506 G i) w;have U:=J.at (j:=ic) (by exact z503 I h i) (by exact z504 G I h i) E;clear J C f w E p1;walk_at"wp";refine⟨by decide,by decide,?_⟩;refine lC (λu loc H'=>∃D,LInv (N+63) q H'/\H'[s]?=some (.list W)/\H'[ic]?=some (.list (cs.map .int))/\loc=[some l,some (.ref 2),some (.ref 5),L,some (.int c),some (.ref ic),some (.int t),D]) ⟨_,B,V,U,rfl⟩ ?_;intro u loc H' v;refine lB (v) λD d A m S=>?_;clear v;subst S;refine⟨trivial,λy hy=>?_,λhu=>?_⟩
 ·refine c7 (r5 hy) λQ e=>?_;subst Q;have e:u<2:=by simpa using e
  refine⟨[.int u],rfl,?_⟩;walk_at"wp";refine d.objAt e ?_;walk_at"wp";refine d.refAt e ?_;walk_at"wp";refine d.refAt e ?_;walk_at"wp";refine lk m g (by decide) (by decide) (by decide) λy y0 y1=>?_;walk_at"wp";refine⟨by exact z507,qZ (aw (show(1+(u:Int)).natAbs<=3 by exact z508 e) (by decide)),?_⟩;have sl:=(d.sh u e).len;refine P (3+u) (q u) _ H' _ (d.b u e) (by exact aa sl T) (by rw[jv (by exact z509)];exact i3 y0 (by exact z509)) λn Y p4=>?_;walk_at"wp";refine lk (dJ p4 m) g (by decide) (by decide) (by decide) λz z0 z1=>?_;walk_at"wp";refine O u (3+u) (q u) n z Y _ (dJ p4 (d.a u e)) (dJ p4 (d.b u e)) ((d.sh u e).up T) z0 λH5 p5=>?_;walk_at"wp";have p:=p4.trans p5;exact jG ⟨_,d.grow p,dJ p A,dJ p m,rfl⟩
 ·exact hR q H' _ _ _ d A
theorem zW {Φ:Fun}(Z:uC Φ) (G:uD Φ) (E:Ai Φ) (cpd:pG "_law_put_due" .ref Φ) (C:tm Φ) (I:rE Φ) (D:tQ Φ) (q:we Φ){l:List Int}{Q:PQ}(hl:l.length<=63) (h:∀H',Q (.bool true) H') :
  wpSs Φ rQ.body [some (.fro (l.map .int)),some (.ref 2),none,none,none,none,none,none] [.dict [],.dict [],.list [.obj 0,.obj 1]] (i6 Q):=by
 show wpSs Φ (rQ.body.drop 0) _ _ (i6 Q);refine g5 0 rfl λR rr i=>?_;walk_at"wp";refine⟨by decide,?_⟩;refine i [some (.fro (l.map .int)),some (.ref 2),some (.ref 5),none,none,none,none,none] [.dict [],.dict [],.list [.obj 0,.obj 1],.dict [],.dict [],.list [.ref 3,.ref 4]] ?_;have inv:LInv 0 (λ_=>[]) [.dict [],.dict [],.list [.obj 0,.obj 1],.dict [],.dict [],.list [.ref 3,.ref 4]]:=⟨λt o=>Sh.nil 0,λt o=>by match t,o with|0,_=>rfl|1,_=>rfl,λt o=>by match t,o with|0,_=>rfl|1,_=>rfl,rfl,rfl⟩;have l6:6<=([.dict [],.dict [],.list [.obj 0,.obj 1],.dict [],.dict [],.list [.ref 3,.ref 4]]:Hp).length:=by decide
 generalize ([.dict [],.dict [],.list [.obj 0,.obj 1],.dict [],.dict [],.list [.ref 3,.ref 4]]:Hp)=H at inv l6;refine g5 1 rfl λR rr i=>?_;walk_at"wp";refine Z _ l 0 12 H _ rfl (by decide) hl (by decide) λcs cb=>?_;walk_at"wp";refine G _ 12 cs _ _ dG cb.up (by decide) (by decide) λrs ok=>?_;have v:=(wR (by decide) ok).up1;have z:Sl (rs.map Rw.ro):=⟨v,F7 ok⟩;rw[<-wQ];clear ok;generalize rs.map Rw.ro=A at v z;generalize m:(H++[AObj.list (cs.map .int)]).length=O;have n:6<O:=by rw[<-m];simp;exact eR l6
 generalize k:H++[AObj.list (cs.map .int)]++[AObj.list (A.map roP)]=p;have L:p[O]?=some (.list (A.map roP)):=by rw[<-k,<-m];exact dG
 have f:LInv 0 (λ_=>[]) p:=inv.grow (by rw[<-k];exact bR.trans bR);clear k m inv;have s1:St p 0 3 [] [] p:=St.start (f.a 0 (by decide)) (f.b 0 (by decide)) (by decide);walk_at"wp";refine i _ _ (g5 2 rfl λR rr i=>?_);walk_at"wp";refine f.objAt (t:=0) (by decide) ?_;walk_at"wp";refine pi L (by rw[ya];have:=v.2.1;exact z124 this) ?_;walk_at"wp";refine E 0 [] A p _ s1.atK (by decide) z λT j p2 _ _=>?_;have x:=s1.setK p2;walk_at"wp";refine i _ _ (g5 3 rfl λR rr i=>?_);walk_at"wp";refine wm (t:=0) (x.at (by decide) (by decide) f.d) (by decide) ?_;walk_at"wp";refine pi (x.at (by exact Nat.ne_zero_of_lt n) (by exact z510 n) L) (by rw[ya];have:=v.2.1;exact z124 this) ?_;walk_at"wp";refine cpd 3 [] (slA A) _ _ T _ x.atI (by decide) (.ok rfl z) λU w p3 _=>?_;have s3:=x.setI p3;refine cG (f.st (t:=0) (M:=63) (by decide) (by decide) ((Sh.nil 0).put z) s3) λF s=>?_;walk_at"wp";refine i _ _ (g5 4 rfl λR rr i=>?_);walk_at"wp";refine⟨by decide,by decide,?_⟩;refine(show kS6 _ _ _ _ _ from ?_);walk_at"wp";refine⟨szL (by rw[ya];exact z124 hl),?_⟩;rw[lT];have P:=five (l:=l);generalize gm l (some 12) (some 17)=us at P;walk_at"wp";rw[oB dG];have l3:=s3.len;have ne:6<=U.length:=by have:=(ym L).1;exact z511 n l3 this
 refine lC (λt loc H'=>∃F V W X Y,LInv (63*(t+1)) F H'/\H'[U.length]?=some (.list (us.map .int))/\loc=[some (.fro (l.map .int)),some (.ref 2),some (.ref 5),some (.ref O),V,W,X,Y]) ⟨F,none,none,none,none,s.grow bR,dG,rfl⟩ ?_;intro t loc H' r;refine nY (r) λB V W X Y e hj K=>?_;clear r;subst K;refine⟨hj,λy N=>?_,λo=>?_⟩
 ·have S:t<5:=by have:=(ym N).1;rw[ya] at this;exact ah this P
  rw[aq] at N;refine aK (yf N) λc _ J=>?_;subst J;refine⟨[.int c],rfl,?_⟩;exact EA Z C I D e (by exact z512 S) ne hj λF2 T b5 b6 b7 i2 j2=>jG ⟨F2,_,b5,b6,b7,i2,j2,rfl⟩
 ·have S:t<=5:=by rw[o,ya];exact P
  have up:∀u,u<2->Sh 450 (B u):=λu hu=>(e.sh u hu).up (by exact z513 S);refine i _ _ (g5 5 rfl λR rr i=>?_);walk_at"wp";refine e.objAt (t:=0) (by decide) ?_;walk_at"wp";refine e.refAt (t:=0) (by decide) ?_;walk_at"wp";refine q 0 3 (B 0) H' _ (e.a 0 (by decide)) (e.b 0 (by decide)) (up 0 (by decide)) λH4 p4=>?_;walk_at"wp";have g:=e.grow p4;refine g.objAt (t:=1) (by decide) ?_;walk_at"wp";refine g.refAt (t:=1) (by decide) ?_;walk_at"wp";refine q 1 4 (B 1) H4 _ (g.a 1 (by decide)) (g.b 1 (by decide)) (up 1 (by decide)) λH5 p5=>?_;walk_at"wp";exact rr _ _ _ (h _)
end
section
open PySem PySem.W PyProof.Rows
noncomputable def xT {T:Expr->Type}(e:Expr) (K:∀a b c,Option (T (.BoolOp a b c))) (L:Option (T e)):Option (T e):=if h:e.ctorIdx=0 then Expr.BoolOp.elim (motive_1:=λe=>Option (T e)) e h K else L
noncomputable def wO {T:Expr->Type}(e:Expr) (K:∀a b c d,Option (T (.BinOp a b c d))) (L:Option (T e)):Option (T e):=if h:e.ctorIdx=2 then Expr.BinOp.elim (motive_1:=λe=>Option (T e)) e h K else L
noncomputable def yU {T:Expr->Type}(e:Expr) (K:∀a b c,Option (T (.UnaryOp a b c))) (L:Option (T e)):Option (T e):=if h:e.ctorIdx=3 then Expr.UnaryOp.elim (motive_1:=λe=>Option (T e)) e h K else L
noncomputable def wa {T:Expr->Type}(e:Expr) (K:∀a b c,Option (T (.Dict a b c))) (L:Option (T e)):Option (T e):=if h:e.ctorIdx=6 then Expr.Dict.elim (motive_1:=λe=>Option (T e)) e h K else L
noncomputable def zb {T:Expr->Type}(e:Expr) (K:∀a b c d,Option (T (.ListComp a b c d))) (L:Option (T e)):Option (T e):=if h:e.ctorIdx=8 then Expr.ListComp.elim (motive_1:=λe=>Option (T e)) e h K else L
noncomputable def yJ {T:Expr->Type}(e:Expr) (K:∀a b c d,Option (T (.Compare a b c d))) (L:Option (T e)):Option (T e):=if h:e.ctorIdx=15 then Expr.Compare.elim (motive_1:=λe=>Option (T e)) e h K else L
noncomputable def qL {T:Expr->Type}(e:Expr) (K:∀a b c d,Option (T (.Call a b c d))) (L:Option (T e)):Option (T e):=if h:e.ctorIdx=16 then Expr.Call.elim (motive_1:=λe=>Option (T e)) e h K else L
noncomputable def za {T:Expr->Type}(e:Expr) (K:∀a b c,Option (T (.Constant a b c))) (L:Option (T e)):Option (T e):=if h:e.ctorIdx=19 then Expr.Constant.elim (motive_1:=λe=>Option (T e)) e h K else L
noncomputable def va {T:Expr->Type}(e:Expr) (K:∀a b c,Option (T (.Attribute a b c))) (L:Option (T e)):Option (T e):=if h:e.ctorIdx=20 then Expr.Attribute.elim (motive_1:=λe=>Option (T e)) e h K else L
noncomputable def vb {T:Expr->Type}(e:Expr) (K:∀a b c,Option (T (.Subscript a b c))) (L:Option (T e)):Option (T e):=if h:e.ctorIdx=21 then Expr.Subscript.elim (motive_1:=λe=>Option (T e)) e h K else L
noncomputable def nc {T:Expr->Type}(e:Expr) (K:∀a b,Option (T (.Name a b))) (L:Option (T e)):Option (T e):=if h:e.ctorIdx=23 then Expr.Name.elim (motive_1:=λe=>Option (T e)) e h K else L
noncomputable def tK {T:Expr->Type}(e:Expr) (K:∀a b,Option (T (.List a b))) (L:Option (T e)):Option (T e):=if h:e.ctorIdx=24 then Expr.List.elim (motive_1:=λe=>Option (T e)) e h K else L
noncomputable def qQ {T:Expr->Type}(e:Expr) (K:∀a b c,Option (T (.Tuple a b c))) (L:Option (T e)):Option (T e):=if h:e.ctorIdx=25 then Expr.Tuple.elim (motive_1:=λe=>Option (T e)) e h K else L
noncomputable def BU {T:Expr->Type}(e:Expr) (K:∀a b c d,Option (T (.Slice a b c d))) (L:Option (T e)):Option (T e):=if h:e.ctorIdx=26 then Expr.Slice.elim (motive_1:=λe=>Option (T e)) e h K else L
noncomputable def Dt {T:Stmt->Type}(e:Stmt) (K:∀a b,Option (T (.Return a b))) (L:Option (T e)):Option (T e):=if h:e.ctorIdx=3 then Stmt.Return.elim (motive_2:=λe=>Option (T e)) e h K else L
noncomputable def xL {T:Stmt->Type}(e:Stmt) (K:∀a b c,Option (T (.Assign a b c))) (L:Option (T e)):Option (T e):=if h:e.ctorIdx=5 then Stmt.Assign.elim (motive_2:=λe=>Option (T e)) e h K else L
noncomputable def sFor {T:Stmt->Type}(e:Stmt) (K:∀a b c d e,Option (T (.For a b c d e))) (L:Option (T e)):Option (T e):=if h:e.ctorIdx=9 then Stmt.For.elim (motive_2:=λe=>Option (T e)) e h K else L
noncomputable def BE {T:Stmt->Type}(e:Stmt) (K:∀a b c d,Option (T (.While a b c d))) (L:Option (T e)):Option (T e):=if h:e.ctorIdx=11 then Stmt.While.elim (motive_2:=λe=>Option (T e)) e h K else L
noncomputable def sIf {T:Stmt->Type}(e:Stmt) (K:∀a b c d,Option (T (.If a b c d))) (L:Option (T e)):Option (T e):=if h:e.ctorIdx=12 then Stmt.If.elim (motive_2:=λe=>Option (T e)) e h K else L
noncomputable def BD {T:Stmt->Type}(e:Stmt) (K:∀a b c,Option (T (.Raise a b c))) (L:Option (T e)):Option (T e):=if h:e.ctorIdx=16 then Stmt.Raise.elim (motive_2:=λe=>Option (T e)) e h K else L
noncomputable def Au {T:Stmt->Type}(e:Stmt) (K:∀a b,Option (T (.Expr a b))) (L:Option (T e)):Option (T e):=if h:e.ctorIdx=24 then Stmt.Expr.elim (motive_2:=λe=>Option (T e)) e h K else L
noncomputable def Ao {T:Const->Type}(e:Const) (K:Option (T .none)) (L:Option (T e)):Option (T e):=if h:e.ctorIdx=0 then Const.none.elim (motive:=λe=>Option (T e)) e h K else L
noncomputable def An {T:Const->Type}(e:Const) (K:∀a,Option (T (.bool a))) (L:Option (T e)):Option (T e):=if h:e.ctorIdx=1 then Const.bool.elim (motive:=λe=>Option (T e)) e h K else L
noncomputable def cInt {T:Const->Type}(e:Const) (K:∀a,Option (T (.int a))) (L:Option (T e)):Option (T e):=if h:e.ctorIdx=2 then Const.int.elim (motive:=λe=>Option (T e)) e h K else L
noncomputable def cStr {T:Const->Type}(e:Const) (K:∀a,Option (T (.str a))) (L:Option (T e)):Option (T e):=if h:e.ctorIdx=5 then Const.str.elim (motive:=λe=>Option (T e)) e h K else L
section
variable {α β:Type}{P:α->Prop}
noncomputable def ob (o:Option {a // P a}) (f:∀a,P a->Option β):Option β:=o.rec none λa=>f a.1 a.2
noncomputable def ck (b:Bool) (f:b=true->Option α):Option α:=if h:b=true then f h else none
noncomputable def oe (o:Option α) (f:∀a,o=some a->Option β) (L:Option β):Option β:=Option.rec (motive:=λo=>(∀a,o=some a->Option β)->Option β) (λ_=>L) (λa f=>f a rfl) o f
noncomputable def ac {T:List α->Type}(l:List α) (K:∀a r,Option (T (a::r))) (L:Option (T [])):Option (T l):=iF (motive:=λl=>Option (T l)) L (λa r _=>K a r) l
noncomputable def oc {T:Option α->Type}(o:Option α) (K:∀a,Option (T (some a))) (L:Option (T none)):Option (T o):=Option.rec (motive:=λo=>Option (T o)) L K o
noncomputable def inv [DecidableEq α] {T:α->Type}(f:β->α) (a:α) (l:List β) (K:∀b∈l,Option (T (f b))) (L:Option (T a)):Option (T a) :=
 iF (motive:=λl=>(∀b∈l,Option (T (f b)))->Option (T a)) (λ_=>L) (λb r F K=>if h:f b=a then h▸K b (.head r) else F λb hb=>K b (.tail _ hb)) l K
noncomputable def is1 [DecidableEq α] {T:α->Type}(b a:α) (K:Option (T b)) (L:Option (T a)):Option (T a):=if h:b=a then h▸K else L
end
def RE (G:GT) (C:Ctx) (e:Expr):Type:={m:ME // CE G C m e}
def RL (G:GT) (C:Ctx) (es:List Expr):Type:={ms:List ME // CEs G C ms es}
def RO (G:GT) (C:Ctx) (o:Option Expr):Type:={ms:List ME // CO G C ms o}
def RC (G:GT) (C:Ctx) (es:List Expr):Type:={ms:List ME // CC G C ms es}
abbrev Rd (G:GT):=∀C e,Option (RE G C e)
variable {G:GT}
noncomputable def re {C:Ctx}{m:ME}{e:Expr}(h:CE G C m e):Option (RE G C e):=some ⟨m,h⟩
noncomputable def gnB (C:Ctx) (x:Str):Bool:=(C.names.lookup x == some .globalImplicit)&&!(x == ("__debug__" : Str))
theorem andE {a b:Bool}(h:(a&&b)=true):a=true/\b=true:=je.mp h
theorem notE {b:Bool}(h:(!b)=true):b=false:=by cases b<;>first|rfl|cases h
theorem zQ {C:Ctx}{x:Str}(h:gnB C x=true):GN C x:=⟨eq_of_beq (andE h).1,notE (andE h).2⟩
noncomputable def gk {α:Type}(C:Ctx) (x:Str) (f:GN C x->Option α):Option α:=ck (gnB C x) λb=>f (zQ b)
noncomputable def sk {α:Type}(C:Ctx) (n:Str) (f:∀i,Slot C i n->Option α):Option α:=oe (C.vars.idxOf? (some n)) (λi _=>ck (qI C i n) λb=>f i (.of b)) none
variable (p:Rd G) (C:Ctx)
noncomputable def rdL (es:List Expr):Option (RL G C es):=iF (motive:=λes=>Option (RL G C es)) (some ⟨[],.nil⟩) (λe _ F=>ob (p C e) λm h=>ob F λms hs=>some ⟨m::ms,.cons h hs⟩) es
noncomputable def locB (C:Ctx) (i:Nat) (x:Str):Bool:=(C.vars[i]? == some (some x))&&(!(x == ("__debug__" : Str))&&!(x == ("__classdict__" : Str)))
theorem Bo {C:Ctx}{i:Nat}{x:Str}{pos:Pos}(h:locB C i x=true):CE G C (.loc i) (.Name x pos):=.loc (eq_of_beq (andE h).1) (notE (andE (andE h).2).1) (notE (andE (andE h).2).2)
noncomputable def BB (G:GT) (x:Str) (pos:Pos):Option (RE G C (.Name x pos)):=oe (C.vars.idxOf? (some x)) (λi _=>ck (locB C i x) λb=>re (Bo b)) (oe (G.csts.lookup x) (λv e=>gk C x λg=>re (.glob e g)) none)
noncomputable def DQ (G:GT) (c:Const) (k:Nat) (pos:Pos):Option (RE G C (.Constant c k pos)):=cInt (T:=λc=>RE G C (.Constant c k pos)) c (λi=>re .int) <|
 cStr (T:=λc=>RE G C (.Constant c k pos)) c (λx=>ck (ff x) λb=>re (.str b)) <| An (T:=λc=>RE G C (.Constant c k pos)) c (λb=>re .bool) <| Ao (T:=λc=>RE G C (.Constant c k pos)) c (re .none) none
noncomputable def bops:List BOp:=[.add,.sub,.mul,.fdiv,.mod,.pow]
noncomputable def cops:List COp:=[.eq,.ne,.lt,.le,.gt,.ge,.is,.isNot,.isin,.notIn]
noncomputable def bis:List Bi:=[.len,.all,.sorted,.list,.tuple,.int,.min,.max]
noncomputable def tys:List Ty:=[.int,.bool,.str,.tuple,.list]
noncomputable def itys:List ITy:=[.range,.revd,.enum]
noncomputable def mts:List Mt:=[.append,.extend]
noncomputable def AH (x:Expr) (o:Operator) (y:Expr) (pos:Pos):Option (RE G C (.BinOp x o y pos)):=ob (p C x) λa ha=>ob (p C y) λb hb=>inv (T:=λo=>RE G C (.BinOp x o y pos)) BOp.op o bops (λ_ _=>re (.bin ha hb)) none
noncomputable def AI (x:Expr) (ops:List CmpOp) (ys:List Expr) (pos:Pos):Option (RE G C (.Compare x ops ys pos)):=ob (p C x) λa ha =>
 ac (T:=λops=>RE G C (.Compare x ops ys pos)) ops (λo os=>ac (T:=λys=>RE G C (.Compare x (o::os) ys pos)) ys (λy ys=>ob (p C y) λb hb=>inv (T:=λo=>RE G C (.Compare x (o::os) (y::ys) pos)) COp.op o cops (λo _ =>
  ac (T:=λos=>RE G C (.Compare x (o.op::os) (y::ys) pos)) os (λo' os=>ac (T:=λos=>RE G C (.Compare x (o.op::o'::os) (y::ys) pos)) os (λ_ _=>none) (ac (T:=λys=>RE G C (.Compare x [o.op,o'] (y::ys) pos)) ys (λz ys=>ac (T:=λys=>RE G C (.Compare x [o.op,o'] (y::z::ys) pos)) ys (λ_ _=>none) (ob (p C z) λc hc =>
   inv (T:=λo'=>RE G C (.Compare x [o.op,o'] [y,z] pos)) COp.op o' cops (λo' _=>re (.cmp2 ha hb hc)) none)) none))
  (ac (T:=λys=>RE G C (.Compare x [o.op] (y::ys) pos)) ys (λ_ _=>none) (re (.cmp ha hb)))) none) none) none
noncomputable def bx (op:BoolOp) (pos:Pos) (x:Expr) (r:List Expr):Expr:=iF x (λy r _=>.BoolOp op (x::y::r) pos) r
noncomputable def bj (op:BoolOp) (a b:ME):ME:=op.rec (.and2 a b) (.or2 a b)
theorem zH {C:Ctx}{op:BoolOp}{pos:Pos}{a b:ME}{x y:Expr}{r:List Expr}(c:CE G C a x) (d:CE G C b (bx op pos y r)):CE G C (bj op a b) (.BoolOp op (x::y::r) pos):=by
 cases op with
 | And=>cases r with
  | nil=>exact .and2 c d
  | cons z r=>exact .and3 c d
 | Or=>cases r with
  | nil=>exact .or2 c d
  | cons z r=>exact .or3 c d
noncomputable def rdB (op:BoolOp) (pos:Pos) (x:Expr) (xs:List Expr):Option (RE G C (bx op pos x xs)):=iF (motive:=λxs=>∀x,Option (RE G C (bx op pos x xs))) (λx=>p C x) (λy r F x=>ob (p C x) λa ha=>ob (F y) λb hb=>re (e:=.BoolOp op (x::y::r) pos) (zH ha hb)) xs x
noncomputable def By (op:BoolOp) (xs:List Expr) (pos:Pos):Option (RE G C (.BoolOp op xs pos)):=ac (T:=λxs=>RE G C (.BoolOp op xs pos)) xs (λx r=>ac (T:=λr=>RE G C (.BoolOp op (x::r) pos)) r (λy r=>rdB p C op pos x (y::r)) none) none
noncomputable def AL (pn:Pos) (x:Expr) (xs:List Expr) (pos:Pos):Option (RE G C (.Call (.Name "isinstance" pn) (x::xs) [] pos)):=gk C "isinstance" λg=>ob (p C x) λa ha =>
 ac (T:=λxs=>RE G C (.Call (.Name "isinstance" pn) (x::xs) [] pos)) xs (λy r=>ac (T:=λr=>RE G C (.Call (.Name "isinstance" pn) (x::y::r) [] pos)) r (λ_ _=>none) (nc (T:=λy=>RE G C (.Call (.Name "isinstance" pn) [x,y] [] pos)) y (λt pt =>
  inv (T:=λt=>RE G C (.Call (.Name "isinstance" pn) [x,.Name t pt] [] pos)) Ty.ps t tys (λt _=>gk C t.ps λg2=>re (.isi g g2 ha)) none) none)) none
noncomputable def DP (n:Str) (pn:Pos) (args:List Expr) (pos:Pos):Option (RE G C (.Call (.Name n pn) args [] pos)):=ac (T:=λargs=>RE G C (.Call (.Name n pn) args [] pos)) args (λx xs =>
 is1 (T:=λn=>RE G C (.Call (.Name n pn) (x::xs) [] pos)) "isinstance" n (AL p C pn x xs pos) <| ob (p C x) λa ha=>ob (rdL p C xs) λas hs =>
 inv (T:=λn=>RE G C (.Call (.Name n pn) (x::xs) [] pos)) Bi.nm n bis (λb _=>gk C b.nm λg=>re (.bi g ha hs)) <|
 ck (G.fns.contains n) λf=>gk C n λg=>re (.call f g ha hs)) none
noncomputable def okO (e:Expr):Bool:=e.ctorIdx == 23||(e.ctorIdx == 20||e.ctorIdx == 21)
noncomputable def lnB (ap pos:Pos) (n:Nat):Bool:=(ap.endLine == pos.line)&&decide (n<30)
theorem Al (h:okO e=true){nm:Str}{w:Sem Value}:attributeBase e nm env w=w :=
 (jz.mp h).elim (λh=>Expr.Name.elim (motive_1:=λe=>attributeBase e nm env w=w) e (eq_of_beq h) λ_ _=>rfl) λh =>
 (jz.mp h).elim (λh=>Expr.Attribute.elim (motive_1:=λe=>attributeBase e nm env w=w) e (eq_of_beq h) λ_ _ _=>rfl) λh=>Expr.Subscript.elim (motive_1:=λe=>attributeBase e nm env w=w) e (eq_of_beq h) λ_ _ _=>rfl
theorem Ab {nm:Str}{d:Value}{a:List (Bool×Sem Value)}{X:Sem Pos}(b c:Bool) (g:b=true) (h:c=true) :
  (holding [d] (calleeOf b e env d nm) >>= λ(f,first)=>(if (!b||c)=true then pure pos else X) >>= λcp=>callWith cp f first a [])=(holding [d] (getMethod d nm (do return (<-importBound e env).getD true)) >>= λ(f,first)=>callWith pos f first a []):=by
 subst g;subst h;rfl
theorem qK {nm:Str}{ap:Pos}(h:okO e=true) (a:lnB ap pos es.length=true) (d:pQ es):MethForm e nm ap pos es:=⟨λenv=>by
 have c:methodCallForm (es.length+0) (backTo pos (bD es env)) []=true:=by have:=d env pos;rw[List.any_eq_not_all_not,Bool.not_eq_false'] at this;rw[methodCallForm,this];exact(andE a).2
 show(attributeBase e nm env (eval e env) >>= λb=>standAt ap.atName >>= λ_=>methodCall e nm ap pos env b (es.length+0) (backTo pos (bD es env)) [])=_;rw[Al h];exact congrArg (eval e env >>= ·) (funext λb=>congrArg (standAt ap.atName >>= ·) (funext λ_=>Ab _ _ c (andE a).1))⟩
section
variable {C:Ctx}{a b:ME}{as:List ME}{o x:Expr}{xs:List Expr}{ap pos:Pos}{q:Str×Str}{m:Mt}
theorem z_ (g:okO o=true) (f:lnB ap pos (x::xs).length=true) (h:q∈kS) (e:CE G C a o) (c:CE G C b x) (d:CEs G C as xs):CE G C (.mcl q.2 a (b::as)) (.Call (.Attribute o q.1 ap) (x::xs) [] pos):=.mcl h e c d (qK g f (CEs.cons c d).plain)
theorem Bq (d:okO o=true) (c:lnB ap pos 0=true) (e:q∈kS) (b:CE G C a o):CE G C (.mcl q.2 a []) (.Call (.Attribute o q.1 ap) [] [] pos):=.mcl0 e b (qK d c λ_ _=>rfl)
theorem Bp (f:okO o=true) (e:lnB ap pos 1=true) (d:CE G C a o) (c:CE G C b x):CE G C (.dpop a b) (.Call (.Attribute o "pop" ap) [x] [] pos):=.dpop d c (qK f e (CEs.cons c .nil).plain)
theorem Aa (d:okO o=true) (c:lnB ap pos 0=true) (b:CE G C a o):CE G C (.meth .pop a []) (.Call (.Attribute o "pop" ap) [] [] pos):=.meth0 (m:=.pop) b (qK d c λ_ _=>rfl)
theorem Br (g:okO o=true) (f:lnB ap pos (x::xs).length=true) (e:CE G C a o) (c:CE G C b x) (d:CEs G C as xs):CE G C (.meth m a (b::as)) (.Call (.Attribute o m.nm ap) (x::xs) [] pos):=.meth e c d (qK g f (CEs.cons c d).plain)
end
noncomputable def BA (o:Expr) (nm:Str) (ap:Pos) (args:List Expr) (pos:Pos):Option (RE G C (.Call (.Attribute o nm ap) args [] pos)):=ck (okO o) λho=>ob (p C o) λa ha =>
 ac (T:=λargs=>RE G C (.Call (.Attribute o nm ap) args [] pos)) args (λx xs=>ob (p C x) λb hb =>
  is1 (T:=λnm=>RE G C (.Call (.Attribute o nm ap) (x::xs) [] pos)) "pop" nm (ac (T:=λxs=>RE G C (.Call (.Attribute o "pop" ap) (x::xs) [] pos)) xs (λ_ _=>none) (ck (lnB ap pos 1) λhl=>re (Bp ho hl ha hb))) <|
  ob (rdL p C xs) λas hs=>ck (lnB ap pos (x::xs).length) λhl=>inv (T:=λnm=>RE G C (.Call (.Attribute o nm ap) (x::xs) [] pos)) al nm kS (λq hq=>re (z_ ho hl hq ha hb hs)) <|
  inv (T:=λnm=>RE G C (.Call (.Attribute o nm ap) (x::xs) [] pos)) Mt.nm nm mts (λm _=>re (Br ho hl ha hb hs)) none)
 (ck (lnB ap pos 0) λhl=>inv (T:=λnm=>RE G C (.Call (.Attribute o nm ap) [] [] pos)) al nm kS (λq hq=>re (Bq ho hl hq ha)) <| is1 (T:=λnm=>RE G C (.Call (.Attribute o nm ap) [] [] pos)) "pop" nm (re (Aa ho hl ha)) none)
noncomputable def rdO (o:Option Expr):Option (RO G C o):=oc (T:=RO G C) o (λe=>ob (p C e) λm h=>some ⟨[m],.some h⟩) (some ⟨[],.none⟩)
noncomputable def AM (L:List Nat) (x y:Expr) (pos:Pos):Option (RE G C (.Subscript x y pos)):=ob (p C x) λa ha=>BU (T:=λy=>RE G C (.Subscript x y pos)) y (λl h s q=>oc (T:=λs=>RE G C (.Subscript x (.Slice l h s q) pos)) s (λ_=>none) <|
 ob (rdO p C l) λlo hlo=>ob (rdO p C h) λhi hhi=>cond (L.contains pos.line) (re (.slcT ha hlo hhi)) (re (.slc ha hlo hhi))) (ob (p C y) λb hb=>re (.idx ha hb))
theorem zZ {C:Ctx}{a:ME}{o:Expr}{pos:Pos}(h:(o.ctorIdx == 23)=true) (b:CE G C a o):CE G C (.att a) (.Attribute o "kept" pos):=.att b (Expr.Name.elim (motive_1:=λe=>AttForm e "kept" pos) o (eq_of_beq h) λ_ _=>⟨λ_=>rfl⟩)
noncomputable def AG (o:Expr) (nm:Str) (pos:Pos):Option (RE G C (.Attribute o nm pos)):=ck (o.ctorIdx == 23) λb=>ob (p C o) λa ha=>is1 (T:=λnm=>RE G C (.Attribute o nm pos)) "kept" nm (re (zZ b ha)) none
noncomputable def rdUn (o:UnaryOp) (x:Expr) (pos:Pos):Option (RE G C (.UnaryOp o x pos)):=ob (p C x) λa ha=>is1 (T:=λo=>RE G C (.UnaryOp o x pos)) .Not o (re (.not ha)) <| is1 (T:=λo=>RE G C (.UnaryOp o x pos)) .USub o (re (.neg ha)) none
noncomputable def AJ (G:GT) (ks:List (Option Expr)) (vs:List Expr) (pos:Pos):Option (RE G C (.Dict ks vs pos)):=ac (T:=λks=>RE G C (.Dict ks vs pos)) ks (λ_ _=>none) (ac (T:=λvs=>RE G C (.Dict [] vs pos)) vs (λ_ _=>none) (re .dic0))
noncomputable def Bz (f:Expr) (args:List Expr) (kws:List Keyword) (pos:Pos):Option (RE G C (.Call f args kws pos)):=ac (T:=λkws=>RE G C (.Call f args kws pos)) kws (λ_ _=>none) <|
 nc (T:=λf=>RE G C (.Call f args [] pos)) f (λn pn=>DP p C n pn args pos) <| va (T:=λf=>RE G C (.Call f args [] pos)) f (λo nm ap=>BA p C o nm ap args pos) none
noncomputable def rdN (L:List Nat) (e:Expr):Option (RE G C e) :=
 nc e (BB C G) <| za e (DQ C G) <| vb e (AM p C L) <| wO e (AH p C) <| yJ e (AI p C) <|
 qL e (Bz p C) <| qQ e (λxs _ _=>ob (rdL p C xs) λas hs=>re (.tup hs)) <| tK e (λxs _=>ob (rdL p C xs) λas hs=>re (.lst hs)) <|
 xT e (By p C) <| yU e (rdUn p C) <| va e (AG p C) <| wa e (AJ C G) none
def RI (G:GT) (C:Ctx) (e:Expr):Type:={x:IK×List ME // CI G C x.1 x.2 e}
noncomputable def ri {C:Ctx}{k:IK}{its:List ME}{e:Expr}(h:CI G C k its e):Option (RI G C e):=some ⟨(k,its),h⟩
noncomputable def rdPl (L:List Nat) (e:Expr):Option (RI G C e):=ob (p C e) λa ha=>cond (L.contains e.pos.line) (ri (.keys ha)) (ri (.plain ha))
noncomputable def rdI (L:List Nat) (e:Expr):Option (RI G C e) :=
 qL e (λf args kws pos=>nc (T:=λf=>RI G C (.Call f args kws pos)) f (λn pn=>inv (T:=λn=>RI G C (.Call (.Name n pn) args kws pos)) ITy.str n itys (λt _=>ac (T:=λkws=>RI G C (.Call (.Name t.str pn) args kws pos)) kws (λ_ _=>none)
  (ac (T:=λargs=>RI G C (.Call (.Name t.str pn) args [] pos)) args (λx xs=>gk C t.str λg=>ob (p C x) λa ha=>ob (rdL p C xs) λas hs=>ri (.ty g ha hs)) none)) (rdPl p C L (.Call (.Name n pn) args kws pos))) (rdPl p C L (.Call f args kws pos))) (rdPl p C L e)
def RT (C:Ctx) (ts:List Expr):Type:={is:List Nat // Names C ts is}
noncomputable def rdNs (ts:List Expr):Option (RT C ts):=iF (motive:=λts=>Option (RT C ts)) (some ⟨[],.nil⟩) (λe ts F=>nc (T:=λe=>RT C (e::ts)) e (λx _=>sk C x λi s=>ob F λis hs=>some ⟨i::is,.cons s hs⟩) none) ts
noncomputable def nmOf (ts:List Expr):List Str:=ts.filterMap λe=>nc (T:=λ_=>Str) e (λx _=>some x) none
noncomputable def rdC (ifs:List Expr):Option (RC G C ifs):=ac (T:=RC G C) ifs (λx r=>ac (T:=λr=>RC G C (x::r)) r (λ_ _=>none) (ob (p C x) λm h=>some ⟨[m],.one h⟩)) (some ⟨[],.nil⟩)
structure IsC (G:GT) (C:Ctx) (xe:Expr) (scope:Scope) (gens:List Comprehension) (m:ME):Prop where
 ce:∀{pos},CE G C m (.ListComp xe gens scope pos)
 cs:∀{i n q cp pos},Slot C i n->CS G C (.asg i m) (.Assign [.Name n q] (.ListComp xe gens scope cp) pos)
def RK (G:GT) (C:Ctx) (xe:Expr) (scope:Scope) (gens:List Comprehension):Type:={m:ME // IsC G C xe scope gens m}
theorem isC {C:Ctx}{g f h:Expr}{e:List Expr}{scope:Scope}{locals:List Str}{t:Bool}{n:Nat}{i:IK×List ME}{d:ME}{a:List ME}(m:oK C t n scope locals f) (b:sF C scope locals=true) (hi:CI G C i.1 i.2 h) (j:(!i.1.tt||nW f)=true) (l:CE G (jU C scope locals) d g) (k:CC G (jU C scope locals) a e) :
  IsC G C g scope [⟨f,h,e,0⟩] (.comp t n d i.1 i.2 a) :=
 have c:CL G C t n d i.1 i.2 a g f h e scope locals:=⟨lZ b,hi,l,k,m⟩;have z:i.1.tt=true->nW f=true:=λz=>by rw[z] at j;exact j
 ⟨.comp c z,λs=>.asgC s c z⟩
noncomputable def rdCo (L:List Nat) (xe xt xi:Expr) (ifs:List Expr) (scope:Scope) (locals:List Str) (t:Bool) (n:Nat) (tg:oK C t n scope locals xt):Option (RK G C xe scope [⟨xt,xi,ifs,0⟩]) :=
 ck (sF C scope locals) λb=>ob (rdI p C L xi) λi hi=>ck (!i.1.tt||nW xt) λb2=>ob (p (jU C scope locals) xe) λelt he=>ob (rdC p (jU C scope locals) ifs) λcnd hc=>some ⟨_,isC tg b hi b2 he hc⟩
theorem tgN {C:Ctx}{a:List Expr}{is:List Nat}{scope:Scope}{l:List Str}{k:Nat}{c:Pos}(h:Names (jU C scope l) a is) (b:(is == (bG l.length).map (C.vars.length+·))=true):oK C true l.length scope l (.Tuple a k c):=.tup rfl (eq_of_beq b▸h)
noncomputable def rdCt (L:List Nat) (xe xt xi:Expr) (ifs:List Expr) (scope:Scope):Option (RK G C xe scope [⟨xt,xi,ifs,0⟩]) :=
 nc (T:=λxt=>RK G C xe scope [⟨xt,xi,ifs,0⟩]) xt (λx px=>ck (qI (jU C scope [x]) C.vars.length x) λb=>rdCo p C L xe (.Name x px) xi ifs scope [x] false 1 (.one (.of b))) <|
 qQ (T:=λxt=>RK G C xe scope [⟨xt,xi,ifs,0⟩]) xt (λts k tp=>ob (rdNs (jU C scope (nmOf ts)) ts) λis h=>ck (is == (bG (nmOf ts).length).map (C.vars.length+·)) λb=>rdCo p C L xe (.Tuple ts k tp) xi ifs scope (nmOf ts) true (nmOf ts).length (tgN h b)) none
noncomputable def wL (L:List Nat) (xe:Expr) (gens:List Comprehension) (scope:Scope):Option (RK G C xe scope gens):=ac (T:=RK G C xe scope) gens (λg r=>ac (T:=λr=>RK G C xe scope (g::r)) r (λ_ _=>none)
 (Comprehension.casesOn (motive_3:=λg=>Option (RK G C xe scope [g])) g λxt xi ifs a=>is1 (T:=λa=>RK G C xe scope [⟨xt,xi,ifs,a⟩]) 0 a (rdCt p C L xe xt xi ifs scope) none)) none
noncomputable def rdE (L:List Nat) (e:Expr):Option (RE G C e):=zb e (λxe gens scope pos=>ob (wL p C L xe gens scope) λm h=>re h.ce) (rdN p C L e)
noncomputable def rd (G:GT) (L:List Nat) (n:Nat):Rd G:=Nat.rec (λ_ _=>none) (λ_ p C e=>rdE p C L e) n
def RS (G:GT) (C:Ctx) (st:Stmt):Type:={m:MS // CS G C m st}
def RB (G:GT) (C:Ctx) (sts:List Stmt):Type:={ms:List MS // CSs G C ms sts}
abbrev Rs (G:GT):=∀C sts,Option (RB G C sts)
noncomputable def rt {C:Ctx}{m:MS}{st:Stmt}(h:CS G C m st):Option (RS G C st):=some ⟨m,h⟩
theorem Aw {x:Expr}{b:List Expr}{a:Pos}(h:(x.ctorIdx == 23||x.ctorIdx == 21)=true):∀env,swappedStores [.Tuple b k a] x env=pure none :=
 (jz.mp h).elim (λh=>Expr.Name.elim (motive_1:=λx=>∀env,swappedStores [.Tuple b k a] x env=pure none) x (eq_of_beq h) λ_ _ _=>rfl) λh=>Expr.Subscript.elim (motive_1:=λx=>∀env,swappedStores [.Tuple b k a] x env=pure none) x (eq_of_beq h) λ_ _ _ _=>rfl
structure SW (e:Expr):Prop where
 sw:∀t l env,dQ e t l env=pure false
def RW (e:Expr):Type:={_u:Unit // SW e}
noncomputable def rw0 {e:Expr}(h:SW e):Option (RW e):=some ⟨(),h⟩
theorem EW {a b c}:SW (.BoolOp a b c):=⟨λ_ _ _=>rfl⟩
theorem Dy {a b c d}:SW (.BinOp a b c d):=⟨λ_ _ _=>rfl⟩
theorem F5 {a b c}:SW (.UnaryOp a b c):=⟨λ_ _ _=>rfl⟩
theorem Cd {a b c}:SW (.Dict a b c):=⟨λ_ _ _=>rfl⟩
theorem F4 {a b c d}:SW (.Compare a b c d):=⟨λ_ _ _=>rfl⟩
theorem Cc {a b c d}:SW (.Call a b c d):=⟨λ_ _ _=>rfl⟩
theorem Gp {a b c}:SW (.Constant a b c):=⟨λ_ _ _=>rfl⟩
theorem GP {a b c}:SW (.Attribute a b c):=⟨λ_ _ _=>rfl⟩
theorem GQ {a b c}:SW (.Subscript a b c):=⟨λ_ _ _=>rfl⟩
theorem Cf {a b}:SW (.Name a b):=⟨λ_ _ _=>rfl⟩
theorem Ce {a b}:SW (.List a b):=⟨λ_ _ _=>rfl⟩
theorem Dz {a b c}:SW (.Tuple a b c):=⟨λ_ _ _=>rfl⟩
noncomputable def nk {α:Type}(e:Expr) (f:SW e->Option α):Option α:=ob (P:=λ_:Unit=>SW e) (xT e (λ_ _ _=>rw0 EW) <| wO e (λ_ _ _ _=>rw0 Dy) <| yU e (λ_ _ _=>rw0 F5) <| wa e (λ_ _ _=>rw0 Cd) <| yJ e (λ_ _ _ _=>rw0 F4) <| qL e (λ_ _ _ _=>rw0 Cc) <| za e (λ_ _ _=>rw0 Gp) <| va e (λ_ _ _=>rw0 GP) <| vb e (λ_ _ _=>rw0 GQ) <| nc e (λ_ _=>rw0 Cf) <| tK e (λ_ _=>rw0 Ce) <| qQ e (λ_ _ _=>rw0 Dz) none) λ_ h=>f h
noncomputable def AF (L:List Nat) (t x:Expr) (pos:Pos):Option (RS G C (.Assign [t] x pos)) :=
 nc (T:=λt=>RS G C (.Assign [t] x pos)) t (λn q=>sk C n λi s=>zb (T:=λx=>RS G C (.Assign [.Name n q] x pos)) x (λxe gens sc cp=>ob (wL p C L xe gens sc) λm h=>rt (h.cs s)) (nk x λz=>ob (rdN p C L x) λa ha=>rt (.asg s ha (z.sw _ _)))) <|
 nk x λw=>ob (rdN p C L x) λc hc=>vb (T:=λt=>RS G C (.Assign [t] x pos)) t (λa b _=>ob (p C a) λa ha=>ob (p C b) λb hb=>rt (.sto hc ha hb (w.sw _ _))) <|
 qQ (T:=λt=>RS G C (.Assign [t] x pos)) t (λts k tp=>ck (x.ctorIdx == 23||x.ctorIdx == 21) λz=>ob (rdNs C ts) λis hs=>rt (.asgT hs hc (λenv=>w.sw (some (.Tuple ts k tp)) pos.line env) (Aw z))) none
variable (q:Rs G)
noncomputable def AK (L:List Nat) (t x:Expr) (b:List Stmt) (pos:Pos):Option (RS G C (.For t x b [] pos)):=ob (rdI p C L x) λi hi=>ob (q C b) λmb hb =>
 nc (T:=λt=>RS G C (.For t x b [] pos)) t (λn _=>sk C n λj s=>ck (!i.1.tt) λz=>rt (.for1 s hi hb (notE z))) <|
 qQ (T:=λt=>RS G C (.For t x b [] pos)) t (λts _ _=>ob (rdNs C ts) λis hs=>rt (.forT hs hi hb)) none
noncomputable def rdS (L:List Nat) (st:Stmt):Option (RS G C st) :=
 xL st (λts x pos=>ac (T:=λts=>RS G C (.Assign ts x pos)) ts (λt r=>ac (T:=λr=>RS G C (.Assign (t::r) x pos)) r (λ_ _=>none) (AF p C L t x pos)) none) <|
 sIf st (λt a b _=>ob (p C t) λt ht=>ob (q C a) λa ha=>ob (q C b) λb hb=>rt (.ite ht ha hb)) <| Dt st (λo pos=>oc (T:=λo=>RS G C (.Return o pos)) o (λx=>ob (p C x) λa ha=>rt (.ret ha)) none) <|
 sFor st (λt x b e pos=>ac (T:=λe=>RS G C (.For t x b e pos)) e (λ_ _=>none) (AK p C q L t x b pos)) <| Au st (λx pos=>nk x λz=>ob (rdN p C L x) λa ha=>rt (.expr ha (z.sw _ _))) <|
 BE st (λt b e pos=>ac (T:=λe=>RS G C (.While t b e pos)) e (λ_ _=>none) (ob (p C t) λt ht=>ob (q C b) λb hb=>rt (.whl ht hb))) none
noncomputable def rs (G:GT) (L:List Nat) (n:Nat):Rs G:=Nat.rec (λ_ _=>none) (λ_ q C sts=>iF (motive:=λsts=>Option (RB G C sts)) (some ⟨[],.nil⟩) (λx _ F=>ob (rdS (rd G L 40) C q L x) λm h=>ob F λms hs=>some ⟨m::ms,.cons h hs⟩) sts) n
noncomputable def bmV:List Value:=[.type "ValueError",.type "Exception",.type "BaseException",.type "object"]
section
def RX (Ξ:PEnv->Nat->Prop) (G:GT) (C:Ctx) (st:Stmt):Type:={m:MS // CSX Ξ G C m st}
def RY (Ξ:PEnv->Nat->Prop) (G:GT) (C:Ctx) (sts:List Stmt):Type:={ms:List MS // CSsX Ξ G C ms sts}
def Own (Ξ:PEnv->Nat->Prop) (ws:List Str):Prop:=∀c∈ws,∀{P d},Ξ P d->∃D,OwnCls c D bmV "ValueError.__new__" P.mg P.B
variable {Ξ:PEnv->Nat->Prop}{ws:List Str}
theorem C7 {C:Ctx}{c:Str}{a:ME}{as:List ME}{x:Expr}{xs:List Expr}{e cp pos:Pos}(own:Own Ξ ws) (h:ws.contains c=true) (g:GN C c) (b:CE G C a x) (d:CEs G C as xs):CSX Ξ G C (.raise c (a::as)) (.Raise (some (.Call (.Name c e) (x::xs) [] cp)) none pos):=.raise g PySem.F.excBase_ValueError b d (own c (iY.mp h))
noncomputable def rw' {C:Ctx}{m:MS}{st:Stmt}(h:CSX Ξ G C m st):Option (RX Ξ G C st):=some ⟨m,h⟩
variable (own:Own Ξ ws) (L:List Nat) (y:∀C sts,Option (RY Ξ G C sts))
noncomputable def DR (e:Expr) (pos:Pos):Option (RX Ξ G C (.Raise (some e) none pos)) :=
 qL (T:=λe=>RX Ξ G C (.Raise (some e) none pos)) e (λf args kws cp=>nc (T:=λf=>RX Ξ G C (.Raise (some (.Call f args kws cp)) none pos)) f (λc np=>ck (ws.contains c) λb=>gk C c λg =>
  ac (T:=λkws=>RX Ξ G C (.Raise (some (.Call (.Name c np) args kws cp)) none pos)) kws (λ_ _=>none) (ac (T:=λargs=>RX Ξ G C (.Raise (some (.Call (.Name c np) args [] cp)) none pos)) args (λx xs=>ob (p C x) λa ha=>ob (rdL p C xs) λas hs=>rw' (C7 own b g ha hs)) none)) none) none
noncomputable def rdX (st:Stmt):Option (RX Ξ G C st) :=
 BD st (λo o' pos=>oc (T:=λo=>RX Ξ G C (.Raise o o' pos)) o (λe=>oc (T:=λo'=>RX Ξ G C (.Raise (some e) o' pos)) o' (λ_=>none) (DR p C own e pos)) none) <|
 sIf st (λt a b _=>ob (p C t) λt ht=>ob (y C a) λa ha=>ob (y C b) λb hb=>rw' (.ite ht ha hb)) <|
 oe (sFor (T:=RX Ξ G C) st (λt x b e pos=>ck (L.contains (1000+pos.line)) λ_=>ac (T:=λe=>RX Ξ G C (.For t x b e pos)) e (λ_ _=>none) (nc (T:=λt=>RX Ξ G C (.For t x b [] pos)) t (λn _=>sk C n λi s=>ob (p C x) λa ha=>ob (y C b) λb hb=>rw' (.forX s (.plain ha) hb)) none)) none) (λr _=>some r)
 (ob (rdS p C q L st) λm h=>rw' (.of h))
noncomputable def rx (G:GT) (n:Nat):∀C sts,Option (RY Ξ G C sts):=Nat.rec (λ_ _=>none) (λ_ y C sts=>iF (motive:=λsts=>Option (RY Ξ G C sts)) (some ⟨[],.nil⟩) (λx _ F=>ob (rdX (rd G L 40) C (rs G L 20) own L y x) λm h=>ob F λms hs=>some ⟨m::ms,.cons h hs⟩) sts) n
end
noncomputable def bfn (fd:Value->Value->Value->FuncData) (n:Nat) (pm cd doc a b c e:Value):Sem (List (Str×Value)):=bindArgs (fd pm cd doc) ⟨[a,b,c,e].take n,[]⟩
noncomputable def ben (params:List Str) (pm cd doc a b c e:Value):Sem (List (Str×Value)):=pure (params.zip ([a,b,c,e].take params.length))
theorem Ax {vals:List Value}(h:vals.length<=4):∃a b c e,vals=[a,b,c,e].take vals.length:=by
 cases vals with
 | nil=>exact⟨.none,.none,.none,.none,rfl⟩
 | cons a r=>cases r with
  | nil=>exact⟨a,.none,.none,.none,rfl⟩
  | cons b r=>cases r with
   | nil=>exact⟨a,b,.none,.none,rfl⟩
   | cons c r=>cases r with
    | nil=>exact⟨a,b,c,.none,rfl⟩
    | cons e r=>exact⟨a,b,c,e,by rw[kK (Nat.le_zero.mp (hY (b:=4) h))];rfl⟩
theorem CQ {fd:Value->Value->Value->FuncData}{params:List Str}(h:bfn fd params.length=ben params) (i:params.length<=4):∀g cd d vals,vals.length=params.length->bindArgs (fd g cd d) ⟨vals,[]⟩=pure (params.zip vals):=λg cd d vals e =>
 pF (Ax (vals:=vals) (e▸i)) λa b c f q=>by have:bindArgs (fd g cd d) ⟨[a,b,c,f].take params.length,[]⟩=pure (params.zip ([a,b,c,f].take params.length)):=congrFun (congrFun (congrFun (congrFun (congrFun (congrFun (congrFun h g) cd) d) a) b) c) f;rw[<-e,<-q] at this;exact this
noncomputable def fnB (x name:Str) (sc:Scope) (vars params:List Str) (f:MF):Bool:=(name == x)&&(decide (sc.kind=.function)&&(!sc.isCoroutine&&(!sc.isGenerator&&((Ctx.mk (vars.map some) sc.names 0).good params&&(decide (params.length=f.params)&&(decide (vars.length=f.vars)&&decide (params.length<=4)))))))
noncomputable def rdF {S:Ctx->List Stmt->List MS->Prop}(q:∀C sts,Option {ms // S C sts ms}) (x:Str) (vars params:List Str) (f:MF) (name:Str) (sc:Scope) (body:List Stmt) (fd:Value->Value->Value->FuncData):Option (List MS×(Value->Value->Value->Value->Value->Value->Value->Sem (List (Str×Value)))) :=
 ck (fnB x name sc vars params f) λ_=>ob (q ⟨vars.map some,sc.names,0⟩ body) λm _=>some (m,bfn fd params.length)
theorem Ap {α:Type}{b:Bool}{f:b=true->Option α}{a:α}{R:Prop}(h:ck b f=some a) (r:∀z,f z=some a->R):R:=by
 cases b with
 | true=>exact r rfl h
 | false=>cases h
theorem Ag {α β:Type}{P:α->Prop}{o:Option {a // P a}}{f:∀a,P a->Option β}{b:β}{R:Prop}(h:ob o f=some b) (r:∀a z,f a z=some b->R):R:=by
 cases o with
 | some a=>exact r a.1 a.2 h
 | none=>cases h
theorem qG {α β:Type}{o:Option α}{f:∀a,o=some a->Option β}{b:β}{R:Prop}(h:oe o f none=some b) (r:∀a z,f a z=some b->R):R:=by
 cases o with
 | some a=>exact r a rfl h
 | none=>cases h
def FnIs (S:Ctx->List Stmt->List MS->Prop) (x:Str) (vars params:List Str) (f:MF) (name:Str) (sc:Scope) (body:List Stmt) (fd:Value->Value->Value->FuncData):Prop :=
 name=x/\sc.kind=.function/\sc.isCoroutine=false/\sc.isGenerator=false/\(Ctx.mk (vars.map some) sc.names 0).good params=true/\S ⟨vars.map some,sc.names,0⟩ body f.body/\params.length=f.params/\vars.length=f.vars/\∀pm cd doc vals,vals.length=params.length->bindArgs (fd pm cd doc) ⟨vals,[]⟩=pure (params.zip vals)
theorem fnIs {S:Ctx->List Stmt->List MS->Prop}{x:Str}{vars params:List Str}{f:MF}{name:Str}{a:Scope}{body:List Stmt}{fd:Value->Value->Value->FuncData}{m:List MS}(z:fnB x name a vars params f=true) (h:S ⟨vars.map some,a.names,0⟩ body m) (e:some (m,bfn fd params.length)=some (f.body,ben params)):FnIs S x vars params f name a body fd :=
 have e:=iq (yj e);have z1:=andE z;have z2:=andE z1.2;have z3:=andE z2.2;have z4:=andE z3.2;have z5:=andE z4.2;have z6:=andE z5.2;have z7:=andE z6.2
 ⟨eq_of_beq z1.1,of_decide_eq_true z2.1,notE z3.1,notE z4.1,z5.1,e.1▸h,of_decide_eq_true z6.1,of_decide_eq_true z7.1,CQ e.2 (of_decide_eq_true z7.2)⟩
theorem qN {S:Ctx->List Stmt->List MS->Prop}{q:∀C sts,Option {ms // S C sts ms}}{x:Str}{vars params:List Str}{f:MF}{name:Str}{a:Scope}{body:List Stmt}{fd:Value->Value->Value->FuncData}(h:rdF q x vars params f name a body fd=some (f.body,ben params)):FnIs S x vars params f name a body fd :=
 Ap h λz h=>Ag h λm b e=>fnIs z b e
noncomputable def rdD {S:Ctx->List Stmt->List MS->Prop}(q:∀C sts,Option {ms // S C sts ms}) (x:Str) (vars params:List Str) (f:MF) (o:Option DefRec):=oe o (λd _=>rdF q x vars params f d.name d.scope d.body (iM d.name d.params d.body d.scope)) none
noncomputable def rdM {S:Ctx->List Stmt->List MS->Prop}(q:∀C sts,Option {ms // S C sts ms}) (c:ClsRec) (x:Str) (vars params:List Str) (f:MF) (o:Option MethRec):=oe o (λd _=>rdF q x vars params f d.name d.scope d.body (methDef d.name (c.name ++ "." ++ d.name) d.params d.body d.scope)) none
variable {prg:Program}{Γ:GT}{x:Str}{vars params:List Str}{f:MF}{L:List Nat}{i n:Nat}
theorem FnOK.of (h:rdD (S:=λC sts ms=>CSs Γ C ms sts) (rs Γ L n) x vars params f (recsOf prg)[i]?=some (f.body,ben params)):FnOK prg Γ x vars params f:=qG h λd a h=>⟨⟨d,yc a,qN h⟩⟩
theorem FnM.of {c:ClsRec}{q:Str×Str}(b:q∈nZ) (h:rdM (S:=λC sts ms=>CSs Γ C ms sts) (rs Γ L n) c q.1 vars params f c.meths[i]?=some (f.body,ben params)):FnM prg Γ c q vars params f:=qG h λd a h=>⟨⟨b,d,yc a,qN h⟩⟩
variable {Ξ:PEnv->Nat->Prop}{ws:List Str}
theorem FnX.of {own:Own Ξ ws}(h:rdD (S:=λC sts ms=>CSsX Ξ Γ C ms sts) (rx own L Γ n) x vars params f (recsOf prg)[i]?=some (f.body,ben params)):FnX Ξ prg Γ x vars params f:=qG h λd a h=>⟨⟨d,yc a,qN h⟩⟩
theorem FnMX.of {own:Own Ξ ws}{c:ClsRec}{q:Str×Str}(b:q∈nZ) (h:rdM (S:=λC sts ms=>CSsX Ξ Γ C ms sts) (rx own L Γ n) c q.1 vars params f c.meths[i]?=some (f.body,ben params)):FnMX Ξ prg Γ c q vars params f:=qG h λd a h=>⟨⟨b,d,yc a,qN h⟩⟩
end
section
open PySem PySem.W PyProof.Rows
noncomputable def ws3:List Str:=["NotHeld", "NoRow", "Needed"]
noncomputable def rP (c:Str):List (Str×Bool):=[("NoNumber",false),("NoSlip",false),("NoText",false),("ValueError",true),("NotHeld",c == "NotHeld"),("NoRow",c == "NoRow"),("Needed",c == "Needed")]
noncomputable def pZ (c:Str):List (Str×Bool):=[("NoNumber",false),("NoSlip",false),("NoText",false),("NotHeld",c == "NotHeld"),("NoRow",c == "NoRow"),("Needed",c == "Needed")]
noncomputable def zJ:List ClsQ:=[⟨"NotHeld",pZ "NotHeld",[("ValueError",true)],["SlipError"]⟩,⟨"NoRow",pZ "NoRow",[("ValueError",true)],["SlipError"]⟩,⟨"Needed",pZ "Needed",[("ValueError",true)],["SlipError"]⟩]
noncomputable def wOne (b:Bool) (w:Str):List Str:=if b then [w] else []
theorem rh {b:Bool}{w:Str}:(wOne b w).length<=1:=by cases b<;>simp[wOne]
noncomputable def wl (c:Str):List Str:=(wOne (c == "NotHeld") "NotHeld" ++ wOne (c == "NoRow") "NoRow")++wOne (c == "Needed") "Needed"
theorem Az:∀c∈ws3,wl c=[c]:=λc a=>by
 rcases yg a with rfl|a
 ·decide+kernel
 rcases yg a with rfl|a
 ·decide+kernel
 ·rw[yb a];decide+kernel
theorem B0 {P:PEnv}{C:Ctx}{d:Nat}{x:Str}{D:Addr}{c e:Expr}{a b:Bool}{f g:Str}{p:Pos}(h:XLv P C d x D c (wOne a f)) (i:XLv P C d x D e (wOne b g)):XLv P C d x D (.BinOp c .Add e p) (wOne a f++wOne b g) :=
 BZ h i (aa (cZ rh rh) (by decide))
theorem BV {a b c:Bool}{d e f:Str}:(wOne a d++wOne b e).length+(wOne c f).length<=1000:=by rw[aC];exact aa (cZ (cZ rh rh) rh) (by decide)
theorem BK {c:Str}{l:List Str}(e:hdS c=some l):c∈ws3/\l=[c]:=by
 unfold hdS at e;split at e
 ·rename_i z;subst z;cases e;exact⟨.head _,rfl⟩
 split at e
 ·rename_i z;subst z;cases e;exact⟨.tail _ (.head _),rfl⟩
 split at e
 ·rename_i z;subst z;cases e;exact⟨.tail _ (.tail _ (.head _)),rfl⟩
 ·cases e
def XiO (P:PEnv) (d:Nat):Prop:=∀c∈ws3,∃D,OwnCls c D bmV "ValueError.__new__" P.mg P.B
def XiN (f:Str) (P:PEnv) (d:Nat):Prop:=∀args H X,RNo args H X->g6 P d f args H (λ_ _=>False) X
structure XiQ (R:mL) (f:Str) (P:PEnv) (d:Nat):Prop where
 mt:∀args H Q X,R args H Q X->g6 P d f args H Q X
 ct:∀c∈ws3,pN P c "SlipError"
 sv:∀c∈ws3,∃D,P.mg c=some (.ref D)/\∀{C:Ctx}{p1 p2 pos:Pos},C.names.lookup ("_law_refusal" : Str)=some .globalImplicit->C.names.lookup ("_law_e" : Str)=some .local->XLv P C d "_law_e" D (.Call (.Name "_law_refusal" p1) [.Name "_law_e" p2] [] pos) [c]
theorem tryS {R:mL}{f:Str}{P:PEnv}{d:Nat}{C:Ctx}{c:Str}{l:List Str}{p1 p2 p3:Pos}(g:XiQ R f P d) (e:hdS c=some l) (k1:C.names.lookup ("_law_refusal" : Str)=some .globalImplicit) (k2:C.names.lookup ("_law_e" : Str)=some .local) :
  pN P c "SlipError" /\ r9 P C d "_law_e" [] [.Return (some (.Call (.Name "_law_refusal" p1) [.Name "_law_e" p2] [] p3)) pos] c (λj H i=>j=.ret (.ref H.length)/\i=H++[.list (l.map .str)]):=by
 refine c7 (BK e) λb a=>?_;subst a;refine aK (g.sv c b) λD k h=>?_;exact⟨g.ct c b,F3 k (h k1 k2)⟩
noncomputable def shAt (s:Shared):Bool:=match s.heap.nsMap dA "Shelf" with|some (.ref D)=>shB (qM s.heap ["Shelf"]) D|_=>false
def XS (mg:Str->Option Value) (h:Heap):Prop:=∃K:Frag,K.In h/\∃D,mg "Shelf" = some (.ref D)/\shB K D=true
theorem xs_of (s:Shared) (e:shAt s=true):XS (s.heap.nsMap dA) s.heap:=by
 unfold shAt at e;split at e
 ·rename_i D a;exact⟨_,yZ,D,a,e⟩
 ·cases e
def XQ (p:Program) (lv:List (Str×WData)) (qs:List ClsQ) (mg:Str->Option Value) (h:Heap):Prop:=XC p lv qs mg h/\XS mg h
theorem XQ.keeps {p:Program}{c:List (Str×WData)}{d:List ClsQ}(mg:Str->Option Value) (h h':Heap) (x:XQ p c d mg h) (a:∀b o,h.get? b=some o->h'.get? b=some o):XQ p c d mg h' :=
 ⟨XC.keeps mg h h' x.1 a,aK x.2 λK e f=>⟨K,e.keeps a,f⟩⟩
section
variable {p:Program}{loose:List Str}{R:WRecords}{XP':(Str->Option Value)->Heap->Prop}{w:World}{s₀:Shared}{mg mb mc:Str->Option Value}{h:Heap}{prog:Program}
structure FnI (c:ClsRec) (sf:Str) (p1 p2 p3 p4:Pos):Prop where
 kept:("kept" : Str)∈c.statics
 ex:∃m,m∈c.meths/\m.name = "__init__" /\ m.body=[.Assign [.Attribute (.Name sf p1) "kept" p2] (.Dict [] [] p3) p4]/\m.scope.kind=.function/\m.scope.isCoroutine=false/\m.scope.isGenerator=false/\m.scope.names.lookup sf=some .local /\
  ∀pm cd doc v,bindArgs (methDef m.name (c.name ++ "." ++ m.name) m.params m.body m.scope pm cd doc) ⟨[v],[]⟩=pure [(sf,v)]
 dbg:(sf == ("__debug__" : Str))=false
 sw:∀env,dQ (.Dict [] [] p3) (some (.Attribute (.Name sf p1) "kept" p2)) p4.line env=pure false
theorem FnI.init {c:ClsRec}{sf:Str}{p1 p2 p3 p4:Pos}(f:FnI c sf p1 p2 p3 p4) (K:ClsK p loose c mg h mc) (x:XS mg h):∃C N mN,InitOK (PEnv.mk prog w h mg mb mc) C N mN sf p1 p2 p3 p4:=by
 refine kM (id K.ex) λC N mN k e i=>?_;subst i;refine oJ (f.ex) λm o q n k1 k2 b=>?_;refine fT (b) λk3 r j=>?_;clear b;refine nY (e.meths m o) λfI oI s cd g t u d=>?_;refine fT (d) λy z A=>?_;clear d;refine aK (x) λl B a=>?_;clear x;refine aK (a) λD E F=>?_;clear a;have:=gD (yj (E.symm.trans k));subst this;refine⟨D,N,mN,k,e.cls,e.quiet _ ?_,e.quiet _ ?_,⟨fI,oI,_,q▸t,u,y,z,?_,k1,k2,k3,rfl,A,r,λv=>j s cd g v⟩,f.dbg,f.sw,l,B,F⟩
 ·simp[ClsRec.quiet]
 ·simp[ClsRec.quiet,ClsRec.withCmp,f.kept]
 ·show FuncBody.stmts m.body=_;rw[n]
def IsS1 (e:Expr):Prop:=∃np cp,e=.Call (.Name "Shelf" np) [] [] cp
noncomputable def rdSh (e:Expr):Option {_u:Unit // IsS1 e}:=qL (T:=λe=>{_u:Unit // IsS1 e}) e (λf args kws cp=>ac (T:=λargs=>{_u:Unit // IsS1 (.Call f args kws cp)}) args (λ_ _=>none) <| ac (T:=λkws=>{_u:Unit // IsS1 (.Call f [] kws cp)}) kws (λ_ _=>none) <|
 nc (T:=λf=>{_u:Unit // IsS1 (.Call f [] [] cp)}) f (λn np=>is1 (T:=λn=>{_u:Unit // IsS1 (.Call (.Name n np) [] [] cp)}) "Shelf" n (some ⟨(),np,cp,rfl⟩) none) none) none
def LawB (Γ:GT) (C:Ctx) (sts:List Stmt) (ms:List MS):Prop:=GN C "Shelf" /\ Slot C 1 "_law_shelves" /\ ∃e1 e2 lp q pos rest,sts=.Assign [.Name "_law_shelves" q] (.List [e1,e2] lp) pos::rest/\IsS1 e1/\IsS1 e2/\CSs Γ C ms rest
noncomputable def lawR (Γ:GT) (q:Rs Γ) (C:Ctx) (sts:List Stmt):Option {ms // LawB Γ C sts ms}:=gk C "Shelf" λg=>ck (qI C 1 "_law_shelves") λsl =>
 ac (T:=λsts=>{ms // LawB Γ C sts ms}) sts (λst r=>ob (q C r) λms hs=>xL (T:=λst=>{ms // LawB Γ C (st::r) ms}) st (λts x pos=>ac (T:=λts=>{ms // LawB Γ C (.Assign ts x pos::r) ms}) ts (λt us=>ac (T:=λus=>{ms // LawB Γ C (.Assign (t::us) x pos::r) ms}) us (λ_ _=>none) <|
  nc (T:=λt=>{ms // LawB Γ C (.Assign [t] x pos::r) ms}) t (λn nq=>is1 (T:=λn=>{ms // LawB Γ C (.Assign [.Name n nq] x pos::r) ms}) "_law_shelves" n (tK (T:=λx=>{ms // LawB Γ C (.Assign [.Name "_law_shelves" nq] x pos::r) ms}) x (λes lp =>
   ac (T:=λes=>{ms // LawB Γ C (.Assign [.Name "_law_shelves" nq] (.List es lp) pos::r) ms}) es (λa es=>ac (T:=λes=>{ms // LawB Γ C (.Assign [.Name "_law_shelves" nq] (.List (a::es) lp) pos::r) ms}) es (λb es=>ac (T:=λes=>{ms // LawB Γ C (.Assign [.Name "_law_shelves" nq] (.List (a::b::es) lp) pos::r) ms}) es (λ_ _=>none)
    (ob (rdSh a) λ_ ha=>ob (rdSh b) λ_ hb=>some ⟨ms,g,.of sl,a,b,lp,nq,pos,r,rfl,ha,hb,hs⟩)) none) none) none) none) none) none) none) none
structure FnLaw (p:Program) (Γ:GT) (vars:List Str) (f:MF):Prop where
 ex:∃d,d∈recsOf p/\FnIs (LawB Γ) "law" vars ["_law_script"] f d.name d.scope d.body (iM d.name d.params d.body d.scope)
theorem FnLaw.of {Γ:GT}{L:List Nat}{n:Nat}{vars:List Str}{f:MF}(h:rdD (lawR Γ (rs Γ L n)) "law" vars ["_law_script"] f (recsOf p)[i]?=some (f.body,ben ["_law_script"])):FnLaw p Γ vars f:=qG h λd a h=>⟨d,yc a,qN h⟩
theorem EI {a:MFlow}{loc:Loc}(h:i6 (λv _=>v=.bool true) a loc H):a=.ret (.bool true):=by
 cases a with
 | ret v=>exact congrArg MFlow.ret h
 | next=>cases h
 | _=>exact h.elim
theorem FnLaw.call {Γ:GT}{vars:List Str}{f:MF}{n:Nat}{v:AV}{C N:Addr}{mN:Str->Option Value}{sf:Str}{p1 p2 p3 p4:Pos}(fn:FnLaw p Γ vars f) (G:Ground p loose R XP' w s0 mg mb h) (I:InitOK (PEnv.mk prog w h mg mb mc) C N mN sf p1 p2 p3 p4) (hn:2<=n)
  (hh:∀B',h.StaysIn B'->GOK (PEnv.mk prog w B' mg mb mc) Γ/\∃Φ,m_ (PEnv.mk prog w B' mg mb mc) n Φ/\wpSs Φ f.body ((some v::am (vars.length-1) none).set 1 (some (.ref 2))) [.dict [],.dict [],.list [.obj 0,.obj 1]] (i6 λv _=>v=.bool true)) :
  g6 (PEnv.mk prog w h mg mb mc) (n+1) "law" [v] [] (λv _=>v=.bool true) XF:=by
 refine aK (fn.ex) λd hd M=>?_;refine oh M λe k1 k2 k3 j=>?_;refine jA (j) λgood O J K=>?_;clear j M J;have hb:=K.2;refine fT O λV sl t=>?_;clear O;refine pU (t) λe1 e2 lp q pos j=>?_;clear t;obtain⟨Q,S,⟨F,y,rfl⟩,⟨H,z,rfl⟩,cs⟩:=j;have sw:∀env,dQ (.List [.Call (.Name "Shelf" F) [] [] y,.Call (.Name "Shelf" H) [] [] z] lp) (some (.Name "_law_shelves" q)) pos.line env=pure false:=λ_=>rfl;refine nY (G.T.fn d hd) λa o pm m B W X u=>?_;refine c7 (u) λY Z=>?_;clear u;have ok:(PEnv.mk prog w h mg mb mc).OK2:=wJ G λb o e=>e;have U:FnAt (PEnv.mk prog w h mg mb mc) "law" ⟨vars.map some,d.scope.names,0⟩ ["_law_script"] d.body:=e▸⟨⟨a,o,_,PEnv.fn_mg W,X,Y,rfl,rfl,k1,k2,k3,rfl,rfl,rfl,Z,λvals hl=>hb pm m B vals hl⟩⟩;refine zc ok.toOK U good rfl ?_;rw[S];have:=GH (P:=PEnv.mk prog w h mg mb mc) (d:=n) (loc:=start ⟨vars.map some,d.scope.names,0⟩ [v]) ok I V sl sw hn λB' st=>by
  refine c7 (hh B' st) λg r=>?_;refine aK (r) λΦ f wp=>?_;clear r;have el:(start ⟨vars.map some,d.scope.names,0⟩ [v]).set 1 (some (.ref 2))=(some v::am (vars.length-1) none).set 1 (some (.ref 2)):=by unfold start;rw[ya];rfl
  rw[el];exact λA E env ι s w e=>gs (cs.snd g f wp A E env ι s w e) λf s4 l x c k i D L q=>⟨l,x,c,k,i,D,L,EI q⟩
 exact λA E env ι s w e=>gs (this A E env ι s w e) λf s4 l x c k i D L q=>⟨l,x,c,k,i,D,L,by subst q;exact rfl⟩
end
end
section
open PySem PySem.W PyProof.Rows
set_option Elab.async false
set_option genSizeOf false
set_option bootstrap.genMatcherCode false
noncomputable def Q:Program:=view PySem.Challenge.pw_uf030003_14 [1,2,3,4,5,6,7,9,10,12,13,14,15,16,17,18,19,20,21,22,24,25,26,28,29,30,31,33,35,36,37,38,39,40,41,42,43,44,45,46,47,48,49,50,51,52,53,54,55,56,57,58,59,60,61,62,63,64,65,66]
noncomputable def clsN:List Str:=[ae "SlipError",ae "NoNumber",ae "NoSlip",ae "NoRow",ae "NotHeld",ae "Needed",ae "NoText"]
noncomputable def clsQ:List ClsQ:=zJ
noncomputable def Xt (s:Shared):Bool:=((xlAt Q [(ae "BOUND",.int 1000000000000000000000000000000)] s&&recOk [] s)&&cfAt clsN clsQ s)&&shAt s
theorem said:OpenLaw.wellSaid PySem.Challenge.rw_uf030003_14=true:=by rw[PySem.W.Fast.te9446332074065402090];kernel_rfl
theorem run (w:World) (os:OsState):headOf PySem.Challenge.pw_uf030003_14 Q [ae "BOUND"] Xt 8000 w os=some (true,openGood Q [ae "BOUND"]):=by rw[PySem.W.Fast.te12803096626720038307];kernel_rfl
theorem left:LeftO PySem.Challenge.pw_uf030003_14 Q [ae "BOUND"] Xt (Hook.obs Hook.none) (Hook.val Hook.none) 8000 :=
 left_of_head (by kernel_rfl) rfl (λ_=>by kernel_rfl) rfl run
noncomputable def gt:GT:=⟨[ae "powered",ae "is_whole",ae "are_powers",ae "are_facts",ae "is_row",ae "tells_prime",ae "needs",ae "comes_to",ae "holds_prime",ae "holds",ae "by_numbers",ae "stands_on",ae "cut",ae "is_slip",ae "wrong_at",ae "lets_by",ae "_law_cell_at",ae "_law_mixed",ae "_law_power",ae "_law_round",ae "_law_is_prime",ae "_law_factors",ae "_law_prime_row",ae "_law_parted_row",ae "_law_big_row",ae "_law_great_row",ae "_law_needs",ae "_law_closed",ae "_law_rows_by",ae "_law_holds",ae "_law_tells",ae "_law_wrong",ae "_law_other_facts",ae "_law_spoilt",ae "_law_refusal",ae "_law_put",ae "_law_drop",ae "_law_slip",ae "_law_users",ae "_law_part",ae "_law_put_due",ae "_law_drop_due",ae "_law_looks",ae "_law_all_so",ae "_law_thing",ae "_law_some",ae "_law_deed",ae "law"],[("BOUND",py),("WORDS",qV),("MOST_TIMES",vG),("MOST_ROWS",vc)]⟩
noncomputable def shC:ClsRec:=(clsOf? Q "Shelf").getD ⟨"",none,[],[],0,[]⟩
theorem BG:shC∈plainsOf Q (looseW Q [ae "BOUND"]):=yc (i:=0) (by kernel_rfl)
theorem BH:shC.name = "Shelf" := by kernel_rfl
theorem Dv:nZ.all (λq=>pX Q [ae "BOUND"] q.2)=true:=by decide+kernel
theorem C_:∃p1 p2 p3 p4,FnI shC "self" p1 p2 p3 p4:=⟨_,_,_,_,yc (i:=0) rfl,⟨_,yc (i:=0) rfl,rfl,rfl,rfl,rfl,rfl,rfl,λ_ _ _ _=>rfl⟩,rfl,λ_=>rfl⟩
theorem G2 (c:Str):FnW Q "_law_refusal" "_law_e" "_law_words" (rP c) (wl c) :=
 ⟨⟨_,yc (i:=34) rfl,rfl,rfl,rfl,rfl,rfl,
 λf gi=>E7 (rS (sR (f.isi (.head _) rfl rfl rfl rfl rfl) (λ_ _=>rfl)) (rS (sR (f.isi (.tail _ (.head _)) rfl rfl rfl rfl rfl) (λ_ _=>rfl)) (rS (sR (f.isi (.tail _ (.tail _ (.head _))) rfl rfl rfl rfl rfl) (λ_ _=>rfl)) (rS (B1 (sR (f.isi (.tail _ (.tail _ (.tail _ (.head _)))) rfl rfl rfl rfl rfl) (λ_ _=>rfl))) F9)))) (B0 (uf f.ok (by decide+kernel) (f.isi (.tail _ (.tail _ (.tail _ (.tail _ (.head _))))) rfl rfl rfl rfl rfl) gi rfl (λ_=>rfl)) (uf f.ok (by decide+kernel) (f.isi (.tail _ (.tail _ (.tail _ (.tail _ (.tail _ (.head _)))))) rfl rfl rfl rfl rfl) gi rfl (λ_=>rfl))) (uf f.ok (by decide+kernel) (f.isi (.tail _ (.tail _ (.tail _ (.tail _ (.tail _ (.tail _ (.head _))))))) rfl rfl rfl rfl rfl) gi rfl (λ_=>rfl)) BV rfl (by decide+kernel) (by decide+kernel) (λ_=>rfl),
 λ_ _ _=>all1 λ_=>rfl⟩⟩
noncomputable def lns:List Nat:=[314,360,1164]
theorem own3:Own XiO ws3:=λc a _ _ b=>b c a
theorem rF {x:Str}{vars params:List Str}{f:MF}(i:Nat) (h:rdD (S:=λC sts ms=>CSs gt C ms sts) (rs gt lns 20) x vars params f (recsOf Q)[i]?=some (f.body,ben params)):FnOK Q gt x vars params f:=.of h
theorem rX {x:Str}{vars params:List Str}{f:MF}(i:Nat) (h:rdD (S:=λC sts ms=>CSsX XiO gt C ms sts) (rx own3 lns gt 20) x vars params f (recsOf Q)[i]?=some (f.body,ben params)):FnX XiO Q gt x vars params f:=.of h
theorem rM {q:Str×Str}{vars params:List Str}{f:MF}(i:Nat) (a:q∈nZ) (h:rdM (S:=λC sts ms=>CSs gt C ms sts) (rs gt lns 20) shC q.1 vars params f shC.meths[i]?=some (f.body,ben params)):FnM Q gt shC q vars params f:=.of a h
theorem rMX {q:Str×Str}{vars params:List Str}{f:MF}(i:Nat) (a:q∈nZ) (h:rdM (S:=λC sts ms=>CSsX XiO gt C ms sts) (rx own3 lns gt 20) shC q.1 vars params f shC.meths[i]?=some (f.body,ben params)):FnMX XiO Q gt shC q vars params f:=.of a h
theorem oks:((((FnOK Q gt "powered" ["base", "exponent", "by", "found"] ["base", "exponent", "by"] uT /\
 FnOK Q gt "is_whole" ["thing", "least", "most"] ["thing", "least", "most"] u6 /\
 FnOK Q gt "are_powers" ["thing", "ahead", "pair"] ["thing"] vq) /\
 FnOK Q gt "are_facts" ["word", "facts"] ["word", "facts"] ve /\
 FnOK Q gt "is_row" ["thing"] ["thing"] uG /\
 FnOK Q gt "tells_prime" ["row"] ["row"] zG) /\
 (FnOK Q gt "needs" ["row"] ["row"] xN /\
 FnOK Q gt "comes_to" ["powers", "number", "product", "q", "times", "turn"] ["powers", "number"] u5 /\
 FnOK Q gt "holds_prime" ["number", "base", "powers", "primes"] ["number", "base", "powers", "primes"] vy) /\
 (FnOK Q gt "holds" ["row", "primes", "number", "word", "facts", "base"] ["row", "primes"] uq /\
 FnOK Q gt "by_numbers" ["rows", "found", "row"] ["rows"] vt) /\
 FnX XiO Q gt "stands_on" ["slip", "number", "rows", "found", "waiting", "other"] ["slip", "number"] rq /\
 FnX (XiN "stands_on") Q gt "cut" ["slip", "number", "wanted"] ["slip", "number"] (qJ RNo)) /\
 ((FnOK Q gt "is_slip" ["thing", "ahead", "row"] ["thing"] uR /\
 FnOK Q gt "wrong_at" ["slip", "primes", "place", "row"] ["slip"] u9 /\
 FnOK Q gt "lets_by" ["thing"] ["thing"] uS) /\
 FnOK Q gt "_law_cell_at" ["_law_script", "_law_k"] ["_law_script", "_law_k"] vA /\
 FnOK Q gt "_law_mixed" ["_law_script", "_law_start", "_law_many", "_law_found", "_law_more", "_law_k"] ["_law_script", "_law_start", "_law_many"] vh /\
 FnOK Q gt "_law_power" ["_law_base", "_law_exponent", "_law_by", "_law_bits", "_law_found", "_law_bit"] ["_law_base", "_law_exponent", "_law_by"] vi) /\
 (FnOK Q gt "_law_round" ["_law_number", "_law_base", "_law_powers", "_law_q", "_law_times"] ["_law_number", "_law_base", "_law_powers"] vj /\
 FnOK Q gt "_law_is_prime" ["_law_number", "_law_at"] ["_law_number"] vF /\
 FnOK Q gt "_law_factors" ["_law_number", "_law_found", "_law_at", "_law_times"] ["_law_number"] vB) /\
 (FnOK Q gt "_law_prime_row" ["_law_number", "_law_cell", "_law_powers", "_law_base"] ["_law_number", "_law_cell"] vL /\
 FnOK Q gt "_law_parted_row" ["_law_number", "_law_cell", "_law_parts", "_law_roots", "_law_a", "_law_base"] ["_law_number", "_law_cell"] rC) /\
 FnOK Q gt "_law_big_row" ["_law_cell", "_law_some_here", "_law_number", "_law_base", "_law_powers"] ["_law_cell"] vz /\
 FnOK Q gt "_law_great_row" ["_law_cell", "_law_more", "_law_a", "_law_b"] ["_law_cell", "_law_more"] vK) /\
 (((FnOK Q gt "_law_needs" ["_law_row"] ["_law_row"] oW /\
 FnOK Q gt "_law_closed" ["_law_rows", "_law_waiting", "_law_cells", "_law_here", "_law_cell"] ["_law_rows", "_law_waiting", "_law_cells"] vw /\
 FnOK Q gt "_law_rows_by" ["_law_cells", "_law_rows", "_law_waiting", "_law_row"] ["_law_cells"] oV) /\
 FnOK Q gt "_law_holds" ["_law_row", "_law_primes", "_law_number", "_law_word", "_law_facts", "_law_base", "_law_total", "_law_q", "_law_times", "_law_turn"] ["_law_row", "_law_primes"] vf /\
 FnOK Q gt "_law_tells" ["_law_row"] ["_law_row"] vk /\
 FnOK Q gt "_law_wrong" ["_law_rows", "_law_primes", "_law_k"] ["_law_rows"] vo) /\
 (FnOK Q gt "_law_other_facts" ["_law_row", "_law_kind", "_law_more", "_law_number", "_law_word", "_law_facts", "_law_base", "_law_powers", "_law_at"] ["_law_row", "_law_kind", "_law_more"] qz /\
 FnOK Q gt "_law_spoilt" ["_law_rows", "_law_cell", "_law_more", "_law_at", "_law_kind", "_law_row"] ["_law_rows", "_law_cell", "_law_more"] pD /\
 FnX (XiQ RPut "Shelf.put") Q gt "_law_put" ["_law_shelf", "_law_thing_here", "_law_e"] ["_law_shelf", "_law_thing_here"] (y4 RPut hdS)) /\
 (FnX (XiQ qB "Shelf.drop") Q gt "_law_drop" ["_law_shelf", "_law_number", "_law_e"] ["_law_shelf", "_law_number"] (zn qB hdS) /\
 FnX (XiQ qC "Shelf.slip") Q gt "_law_slip" ["_law_shelf", "_law_number", "_law_e"] ["_law_shelf", "_law_number"] (zo qC hdS)) /\
 FnOK Q gt "_law_users" ["_law_rows", "_law_number"] ["_law_rows", "_law_number"] vn /\
 FnOK Q gt "_law_part" ["_law_rows", "_law_number", "_law_under", "_law_waiting", "_law_q"] ["_law_rows", "_law_number"] u7) /\
 ((FnOK Q gt "_law_put_due" ["_law_rows", "_law_thing_here", "_law_new", "_law_row"] ["_law_rows", "_law_thing_here"] vC /\
 FnOK Q gt "_law_drop_due" ["_law_rows", "_law_number"] ["_law_rows", "_law_number"] vE /\
 FnOK Q gt "_law_looks" ["_law_shelf", "_law_rows", "_law_number", "_law_cell", "_law_way", "_law_found", "_law_due"] ["_law_shelf", "_law_rows", "_law_number", "_law_cell"] vg) /\
 FnOK Q gt "_law_all_so" ["_law_shelf", "_law_rows", "_law_number"] ["_law_shelf", "_law_rows"] vv /\
 FnOK Q gt "_law_thing" ["_law_cells", "_law_rows"] ["_law_cells"] vm /\
 FnOK Q gt "_law_some" ["_law_rows", "_law_cell", "_law_some_here"] ["_law_rows", "_law_cell"] u8) /\
 (FnOK Q gt "_law_deed" ["_law_shelf", "_law_rows", "_law_cells", "_law_thing_here", "_law_due", "_law_found", "_law_number", "_law_users_here", "_law_user", "_law_part_here"] ["_law_shelf", "_law_rows", "_law_cells"] rj /\
 FnLaw Q gt ["_law_script", "_law_shelves", "_law_kept", "_law_first", "_law_cell", "_law_cells", "_law_at", "_law_k"] rQ /\
 FnMX XiO Q gt shC ("put", "Shelf.put") ["self", "thing", "found", "row"] ["self", "thing"] vd) /\
 (FnM Q gt shC ("told", "Shelf.told") ["self", "number"] ["self", "number"] vp /\
 FnM Q gt shC ("numbers", "Shelf.numbers") ["self"] ["self"] vJ) /\
 FnMX (XiN "cut") Q gt shC ("slip", "Shelf.slip") ["self", "number"] ["self", "number"] (vI RNo) /\
 FnMX XiO Q gt shC ("drop", "Shelf.drop") ["self", "number", "other"] ["self", "number"] vH:=by
 refine⟨⟨⟨⟨⟨rF 0 (by kernel_rfl),
 ⟨rF 1 (by kernel_rfl),
 rF 2 (by kernel_rfl)⟩⟩,
 ⟨rF 3 (by kernel_rfl),
 ⟨rF 4 (by kernel_rfl),
 rF 5 (by kernel_rfl)⟩⟩⟩,
 ⟨⟨rF 6 (by kernel_rfl),
 ⟨rF 7 (by kernel_rfl),
 rF 8 (by kernel_rfl)⟩⟩,
 ⟨⟨rF 9 (by kernel_rfl),
 rF 10 (by kernel_rfl)⟩,
 ⟨rX 11 (by kernel_rfl),
 ⟨⟨_,yc (i:=12) rfl,rfl,rfl,rfl,rfl,rfl,?_,rfl,rfl,λ_ _ _=>all2 λ_ _=>rfl⟩⟩⟩⟩⟩⟩,
 ⟨⟨⟨rF 13 (by kernel_rfl),
 ⟨rF 14 (by kernel_rfl),
 rF 15 (by kernel_rfl)⟩⟩,
 ⟨rF 16 (by kernel_rfl),
 ⟨rF 17 (by kernel_rfl),
 rF 18 (by kernel_rfl)⟩⟩⟩,
 ⟨⟨rF 19 (by kernel_rfl),
 ⟨rF 20 (by kernel_rfl),
 rF 21 (by kernel_rfl)⟩⟩,
 ⟨⟨rF 22 (by kernel_rfl),
 rF 23 (by kernel_rfl)⟩,
 ⟨rF 24 (by kernel_rfl),
 rF 25 (by kernel_rfl)⟩⟩⟩⟩⟩,
 ⟨⟨⟨⟨rF 26 (by kernel_rfl),
 ⟨rF 27 (by kernel_rfl),
 rF 28 (by kernel_rfl)⟩⟩,
 ⟨rF 29 (by kernel_rfl),
 ⟨rF 30 (by kernel_rfl),
 rF 31 (by kernel_rfl)⟩⟩⟩,
 ⟨⟨rF 32 (by kernel_rfl),
 ⟨rF 33 (by kernel_rfl),
 ⟨⟨_,yc (i:=35) rfl,rfl,rfl,rfl,rfl,rfl,?_,rfl,rfl,λ_ _ _=>all2 λ_ _=>rfl⟩⟩⟩⟩,
 ⟨⟨⟨⟨_,yc (i:=36) rfl,rfl,rfl,rfl,rfl,rfl,?_,rfl,rfl,λ_ _ _=>all2 λ_ _=>rfl⟩⟩,
 ⟨⟨_,yc (i:=37) rfl,rfl,rfl,rfl,rfl,rfl,?_,rfl,rfl,λ_ _ _=>all2 λ_ _=>rfl⟩⟩⟩,
 ⟨rF 38 (by kernel_rfl),
 rF 39 (by kernel_rfl)⟩⟩⟩⟩,
 ⟨⟨⟨rF 40 (by kernel_rfl),
 ⟨rF 41 (by kernel_rfl),
 rF 42 (by kernel_rfl)⟩⟩,
 ⟨rF 43 (by kernel_rfl),
 ⟨rF 44 (by kernel_rfl),
 rF 45 (by kernel_rfl)⟩⟩⟩,
 ⟨⟨rF 46 (by kernel_rfl),
 ⟨.of (L:=lns) (i:=47) (n:=20) (by kernel_rfl),
 rMX 1 (.tail _ ug) (by kernel_rfl)⟩⟩,
 ⟨⟨rM 2 (.tail _ x6) (by kernel_rfl),
 rM 3 (.tail _ zr) (by kernel_rfl)⟩,
 ⟨⟨⟨.tail _ x5,_,yc (i:=4) rfl,rfl,rfl,rfl,rfl,rfl,?_,rfl,rfl,λ_ _ _=>all2 λ_ _=>rfl⟩⟩,
 rMX 5 (.tail _ xZ) (by kernel_rfl)⟩⟩⟩⟩⟩⟩
 all_goals repeat' first
  | exact .loc rfl rfl rfl
  | exact .int
  | exact .nil
  | refine .cons ?_ ?_
  | refine .idx ?_ ?_
  | refine .bin ?_ ?_
  | refine .cmp ?_ ?_
  | refine .call rfl ⟨rfl,rfl⟩ ?_ ?_
  | refine .bi ⟨rfl,rfl⟩ ?_ ?_
  | refine .ret ?_
  | refine .ite ?_ ?_ ?_
  | refine .asg (.of rfl) ?_ (λ_=>rfl)
  | exact .bool
  | exact .str (by decide+kernel)
  | refine .expr ?_ (λ_=>rfl)
  | refine .plain ?_
  | refine .for1 (.of rfl) ?_ ?_ rfl
  | refine .isi ⟨rfl,rfl⟩ ⟨rfl,rfl⟩ ?_
  | refine .not ?_
  | refine .and2 ?_ ?_
  | refine .or2 ?_ ?_
  | refine .and3 ?_ ?_
  | refine .or3 ?_ ?_
  | refine .tup ?_
  | refine .lst ?_
  | refine .sto ?_ ?_ ?_ (λ_=>rfl)
  | refine .whl ?_ ?_
  | refine .meth ?_ ?_ ?_ ⟨λ_=>rfl⟩
  | refine .meth0 ?_ ⟨λ_=>rfl⟩
  | exact .glob rfl ⟨rfl,rfl⟩
  | exact .none
  | refine .some ?_
  | refine .cmp2 ?_ ?_ ?_
  | refine .slc ?_ ?_ ?_
  | refine .slcT ?_ ?_ ?_
  | exact .dic0
  | refine .neg ?_
  | refine .asgT ?_ ?_ (λ_=>rfl) (λ_=>rfl)
  | refine .forT ?_ ?_ ?_
  | refine .ty (t:=.range) ⟨rfl,rfl⟩ ?_ ?_
  | refine .ty (t:=.revd) ⟨rfl,rfl⟩ ?_ ?_
  | refine .ty (t:=.enum) ⟨rfl,rfl⟩ ?_ ?_
  | refine .keys ?_
  | refine .att ?_ ⟨λ_=>rfl⟩
  | refine .dpop ?_ ?_ ⟨λ_=>rfl⟩
  | refine .mcl ug ?_ ?_ ?_ ⟨λ_=>rfl⟩
  | refine .mcl x6 ?_ ?_ ?_ ⟨λ_=>rfl⟩
  | refine .mcl0 zr ?_ ⟨λ_=>rfl⟩
  | refine .comp (locals:=["row"]) ⟨lZ rfl,?_,?_,?_,.one (.of rfl)⟩ (λh=>nomatch h)
  | refine .asgC (locals:=["row"]) (.of rfl) ⟨lZ rfl,?_,?_,?_,.one (.of rfl)⟩ (λh=>nomatch h)
  | refine .comp (locals:=["_law_at"]) ⟨lZ rfl,?_,?_,?_,.one (.of rfl)⟩ (λh=>nomatch h)
  | refine .asgC (locals:=["_law_at"]) (.of rfl) ⟨lZ rfl,?_,?_,?_,.one (.of rfl)⟩ (λh=>nomatch h)
  | refine .comp (locals:=["_law_number"]) ⟨lZ rfl,?_,?_,?_,.one (.of rfl)⟩ (λh=>nomatch h)
  | refine .asgC (locals:=["_law_number"]) (.of rfl) ⟨lZ rfl,?_,?_,?_,.one (.of rfl)⟩ (λh=>nomatch h)
  | refine .comp (locals:=["_law_k"]) ⟨lZ rfl,?_,?_,?_,.one (.of rfl)⟩ (λh=>nomatch h)
  | refine .asgC (locals:=["_law_k"]) (.of rfl) ⟨lZ rfl,?_,?_,?_,.one (.of rfl)⟩ (λh=>nomatch h)
  | refine .comp (locals:=["_law_one"]) ⟨lZ rfl,?_,?_,?_,.one (.of rfl)⟩ (λh=>nomatch h)
  | refine .asgC (locals:=["_law_one"]) (.of rfl) ⟨lZ rfl,?_,?_,?_,.one (.of rfl)⟩ (λh=>nomatch h)
  | refine .comp (locals:=["one"]) ⟨lZ rfl,?_,?_,?_,.one (.of rfl)⟩ (λh=>nomatch h)
  | refine .asgC (locals:=["one"]) (.of rfl) ⟨lZ rfl,?_,?_,?_,.one (.of rfl)⟩ (λh=>nomatch h)
  | refine .comp (locals:=["q", "times"]) ⟨lZ rfl,?_,?_,?_,.tup rfl (.cons (.of rfl) (.cons (.of rfl) .nil))⟩ (λh=>nomatch h)
  | refine .asgC (locals:=["q", "times"]) (.of rfl) ⟨lZ rfl,?_,?_,?_,.tup rfl (.cons (.of rfl) (.cons (.of rfl) .nil))⟩ (λh=>nomatch h)
  | refine .comp (locals:=["_law_q", "_law_times"]) ⟨lZ rfl,?_,?_,?_,.tup rfl (.cons (.of rfl) (.cons (.of rfl) .nil))⟩ (λh=>nomatch h)
  | refine .asgC (locals:=["_law_q", "_law_times"]) (.of rfl) ⟨lZ rfl,?_,?_,?_,.tup rfl (.cons (.of rfl) (.cons (.of rfl) .nil))⟩ (λh=>nomatch h)
  | refine .one ?_
  | exact .of rfl
  | refine .raise ⟨rfl,rfl⟩ PySem.F.excBase_ValueError ?_ ?_ (λa=>a _ (by decide))
  | refine .asgR ?_ rfl ⟨rfl,rfl⟩ ?_ ?_ (λa=>a) (λ_=>rfl)
  | refine .retR ?_ rfl ⟨rfl,rfl⟩ ?_ ?_ (λa=>a)
  | refine .forX (.of rfl) ?_ ?_
  | refine .tryM ug ?_ ?_ ?_ ⟨λ_=>rfl⟩ (λa=>a.mt) ⟨rfl,rfl⟩ (.cons (.of rfl) .nil) (by decide+kernel) rfl (λ_=>rfl) (λa _ _ e=>tryS a e rfl rfl)
  | refine .tryM xZ ?_ ?_ ?_ ⟨λ_=>rfl⟩ (λa=>a.mt) ⟨rfl,rfl⟩ (.cons (.of rfl) .nil) (by decide+kernel) rfl (λ_=>rfl) (λa _ _ e=>tryS a e rfl rfl)
  | refine .tryM x5 ?_ ?_ ?_ ⟨λ_=>rfl⟩ (λa=>a.mt) ⟨rfl,rfl⟩ (.cons (.of rfl) .nil) (by decide+kernel) rfl (λ_=>rfl) (λa _ _ e=>tryS a e rfl rfl)
  | refine .of ?_
theorem BI:pL.all (λx=>pX Q [ae "BOUND"] x)=true:=by decide+kernel
theorem zO:gt.fns.all (λx=>((recsOf Q).map (·.name)).contains x)=true:=by decide+kernel
end
section
open PySem PySem.W PyProof.Rows
theorem VRs.strs {a:List Str}(q:StrsAre vs a) (ok:a.all ff=true):VRs B h ι (a.map .str) vs:=by
 induction q with
 | nil=>rfl
 | cons _ t r ih =>
  simp only[lO,aS] at ok;exact⟨_,_,rfl,VR.mkStr _ _ ok.1,ih ok.2⟩
theorem EZ:oC.all ff=true:=by decide+kernel
theorem EY:tupStrsOf Q "WORDS" = some oC:=by decide+kernel
theorem B9:(kS.all λq=>(shC.meths.map (·.name)).contains q.1)=true:=by decide+kernel
theorem Av:∀q∈kS,∃m∈shC.meths,m.name=q.1:=λq a=>yh (iY.mp (aN.mp B9 q a))
theorem zK {mg:Str->Option Value}(c:∃u,mg "BOUND" = some u/\∀h ι,B.StaysIn h->VR B h ι py u) (d:∃u,mg "WORDS" = some u/\∀h ι,B.StaysIn h->VR B h ι qV u) (f:∃u,mg "MOST_TIMES" = some u/\∀h ι,B.StaysIn h->VR B h ι vG u) (g:∃u,mg "MOST_ROWS" = some u/\∀h ι,B.StaysIn h->VR B h ι vc u)
  (x:Str) (v:AV) (e:gt.csts.lookup x=some v):∃u,mg x=some u/\∀h ι,B.StaysIn h->VR B h ι v u:=by
 have st:∀{x y:Str}{a v:AV}{r:List (Str×AV)},(∃u,mg y=some u/\∀h ι,B.StaysIn h->VR B h ι a u)->(r.lookup x=some v->∃u,mg x=some u/\∀h ι,B.StaysIn h->VR B h ι v u)->((y,a)::r).lookup x=some v->∃u,mg x=some u/\∀h ι,B.StaysIn h->VR B h ι v u:=λ{x y a v r} k1 k2 e=>by
  rw[kx] at e;cases b:x == y with
  | true=>rw[b] at e;rw[eq_of_beq b,<-yj e];exact k1
  | false=>rw[b] at e;exact k2 e
 exact st c (st d (st f (st g λe=>by cases e))) e
theorem C4 {c:Str}{p:Str×Bool}(h:p∈rP c):p∈pZ c\/p=(("ValueError" : Str),true):=by
 unfold rP at h;simp only[cA,cJ,or_false] at h;rcases h with z|z|z|z|z|z|z
 ·exact .inl (z▸.head _)
 ·exact .inl (z▸.tail _ (.head _))
 ·exact .inl (z▸.tail _ (.tail _ (.head _)))
 ·exact .inr z
 ·exact .inl (z▸.tail _ (.tail _ (.tail _ (.head _))))
 ·exact .inl (z▸.tail _ (.tail _ (.tail _ (.tail _ (.head _)))))
 ·exact .inl (z▸.tail _ (.tail _ (.tail _ (.tail _ (.tail _ (.head _))))))
theorem ok14 {prog:Program}{R:WRecords}{w:World}{mg mb mc:Str->Option Value}(G:Ground Q [ae "BOUND"] R (XQ Q [(ae "BOUND",.int 1000000000000000000000000000000)] clsQ) w s0 mg mb h) (K:ClsK Q [ae "BOUND"] shC mg h mc) (st:h.StaysIn B):GOK (PEnv.mk prog w B mg mb mc) gt :=
 BJ G st (K.clsG st (iY.mp (by decide+kernel)) Av) BI zO (zK
  (aK (G.X.1.1.2.val (ae "BOUND",.int 1000000000000000000000000000000) (yn rfl)) λu c d=>⟨_,c,aK (readsW_int_inv d) λt e _=>e▸λ_ _ _=>VR.mkInt _ _⟩)
  (eX (G.B.tupS (ae "WORDS") oC EY) λa vs c d j=>⟨_,c,λh' ι i=>⟨_,vs,rfl,PTup.of (d.keeps λb o e=>i b o (st b o e)),VRs.strs j EZ⟩⟩)
  (aK (G.T.const (ae "MOST_TIMES") (.int 100) rfl) λu c d=>⟨_,c,kB (reads_int_of (d default) rfl) λn t f g=>g▸PyData.int.inj f▸λ_ _ _=>VR.mkInt _ _⟩)
  (aK (G.T.const (ae "MOST_ROWS") (.int 200) rfl) λu c d=>⟨_,c,kB (reads_int_of (d default) rfl) λn t f g=>g▸PyData.int.inj f▸λ_ _ _=>VR.mkInt _ _⟩))
theorem mem3 {M:Str->Prop}(b:M "NotHeld") (d:M "NoRow") (f:M "Needed"):∀c∈ws3,M c:=λc a =>
 (yg a).elim (λe=>e▸b) λa=>(yg a).elim (λe=>e▸d) λa=>yb a▸f
theorem Ah {prog:Program}{R:WRecords}{w:World}{mg mb mc:Str->Option Value}(G:Ground Q [ae "BOUND"] R (XQ Q [(ae "BOUND",.int 1000000000000000000000000000000)] clsQ) w s0 mg mb h) (K:ClsK Q [ae "BOUND"] shC mg h mc) (st:h.StaysIn B) (n:Nat):XiO (PEnv.mk prog w B mg mb mc) n :=
 have o:∀{x},specOf Q x=some ("ValueError.__new__",bmV)->∃D,OwnCls x D bmV "ValueError.__new__" mg B:=λh=>aK (G.T.ownAt h) λC O _=>⟨C,O.own.keeps st⟩
 mem3 (M:=λc=>∃D,OwnCls c D bmV "ValueError.__new__" mg B) (o (by decide+kernel)) (o (by decide+kernel)) (o (by decide+kernel))
theorem cf14 {prog:Program}{R:WRecords}{w:World}{mg mb mc:Str->Option Value}(G:Ground Q [ae "BOUND"] R (XQ Q [(ae "BOUND",.int 1000000000000000000000000000000)] clsQ) w s0 mg mb h) (K:ClsK Q [ae "BOUND"] shC mg h mc) (st:h.StaysIn B):∀c∈ws3,pN (PEnv.mk prog w B mg mb mc) c "SlipError" /\ ∃D,mg c=some (.ref D)/\IsF (PEnv.mk prog w B mg mb mc) D (rP c):=λc f=>by
 have g:ClsQ.mk c (pZ c) [("ValueError",true)] ["SlipError"]∈clsQ:=mem3 (M:=λc=>ClsQ.mk c (pZ c) [("ValueError",true)] ["SlipError"]∈clsQ) (.head _) (.tail _ (.head _)) (.tail _ (.tail _ (.head _))) c f;have ok:=ok14 (prog:=prog) G K st;refine aK G.X.1.2 λe a j=>cG (j _ g) λD F=>⟨aK (F.ct "SlipError" (.head _)) λv b d=>Gw (a.keeps st) F.at_ b d,D,F.at_,ok.toOK,.inr ok.isi,e,a.keeps st,F.exc,λp i=>?_⟩;rcases C4 i with z|z
 ·exact aK (F.kit p z) λv b d=>⟨v,.inl b,d⟩
 ·rw[z];exact⟨.type "ValueError",.inr ⟨um G (by decide+kernel),(G.T.builtins _ (by decide+kernel)).trans (by decide+kernel)⟩,F.ty ("ValueError",true) (.head _)⟩
theorem sv14 {prog:Program}{R:WRecords}{w:World}{mg mb mc:Str->Option Value}(G:Ground Q [ae "BOUND"] R (XQ Q [(ae "BOUND",.int 1000000000000000000000000000000)] clsQ) w s0 mg mb h) (K:ClsK Q [ae "BOUND"] shC mg h mc) (st:h.StaysIn B) (n:Nat):∀c∈ws3,∃D,mg c=some (.ref D)/\∀{C:Ctx}{p1 p2 pos:Pos},C.names.lookup ("_law_refusal" : Str)=some .globalImplicit->C.names.lookup ("_law_e" : Str)=some .local->XLv (PEnv.mk prog w B mg mb mc) C (n+1) "_law_e" D (.Call (.Name "_law_refusal" p1) [.Name "_law_e" p2] [] pos) [c]:=λc a =>
 aK (cf14 (prog:=prog) G K st c a).2 λD b f=>⟨D,b,λ{C p1 p2 pos} k1 k2=>Az c a▸(G2 c).call (n:=n) (y := "_law_e") (p1:=p1) (p2:=p2) (pos:=pos) G st f (.inr ((ok14 (prog:=prog) G K st).ty .int)) k1 k2 (by decide+kernel) (by decide+kernel)⟩
structure Env (P:PEnv):Prop where
 fn:∀{x vars params f n args H Q},FnOK Mine.Q gt x vars params f->wpF (CK P n) f args H Q->g6 P (n+1) x args H Q XF
 fx:∀{Ξ x vars params f n args H Q X},FnX Ξ Mine.Q gt x vars params f->Ξ P n->wpFX (CK P n) f args H Q X->g6 P (n+1) x args H Q X
 fm:∀{q vars params f n args H Q},FnM Mine.Q gt shC q vars params f->wpF (CK P n) f args H Q->g6 P (n+1) q.2 args H Q XF
 fmx:∀{Ξ q vars params f n args H Q X},FnMX Ξ Mine.Q gt shC q vars params f->Ξ P n->wpFX (CK P n) f args H Q X->g6 P (n+1) q.2 args H Q X
 own:∀n,XiO P n
 ct:∀c∈ws3,pN P c "SlipError"
 sv:∀n,∀c∈ws3,∃D,P.mg c=some (.ref D)/\∀{C:Ctx}{p1 p2 pos:Pos},C.names.lookup ("_law_refusal" : Str)=some .globalImplicit->C.names.lookup ("_law_e" : Str)=some .local->XLv P C (n+1) "_law_e" D (.Call (.Name "_law_refusal" p1) [.Name "_law_e" p2] [] pos) [c]
theorem zL {prog:Program}{R:WRecords}{w:World}{mg mb mc:Str->Option Value}(G:Ground Q [ae "BOUND"] R (XQ Q [(ae "BOUND",.int 1000000000000000000000000000000)] clsQ) w s0 mg mb h) (K:ClsK Q [ae "BOUND"] shC mg h mc) (st:h.StaysIn B):Env (PEnv.mk prog w B mg mb mc) :=
 have ok:=ok14 (prog:=prog) G K st
 ⟨λf w=>f.call G st ok (λ_ _ _ _ h=>h) w,λf a w=>f.call G st ok a (λ_ _ _ _ h=>h) w,λf w=>f.call K st ok (λ_ _ _ _ h=>h) w,λf a w=>f.call K st ok a (λ_ _ _ _ h=>h) w,Ah G K st,λc b=>(cf14 G K st c b).1,sv14 G K st⟩
theorem AD {P:PEnv}(E:Env P){ns:List Int}(hl:ns.length<=63):∃Φ,m_ P 9 Φ/\wpSs Φ rQ.body ((some (.fro (ns.map .int))::am 7 none).set 1 (some (.ref 2))) [.dict [],.dict [],.list [.obj 0,.obj 1]] (i6 λv _=>v=.bool true):=by have K:∀n,vQ (CK P (n+1)):=λn v l k H Q h0 g o s=>E.fn (n:=n) oks.1.2.1.2.1 (CU h0 g o s);have wh:∀n,SWh (CK P (n+1)):=λn k a b H Q g o s=>E.fn (n:=n) oks.1.1.1.1.2.1 (is_whole g o s);have ao:∀n,SPw (CK P (n+2)):=λn k ps H Q g o s u=>E.fn (n:=n+1) oks.1.1.1.1.2.2 (are_powers (wh n) g o s u);have ac:∀n,SFac (CK P (n+3)):=λn k m f H Q g o=>E.fn (n:=n+2) oks.1.1.1.2.1 (are_facts (wh (n+1)) (ao n) g o);have G:∀n,SRow (CK P (n+4)):=λn k m f H Q g o=>E.fn (n:=n+3) oks.1.1.1.2.2.1 (is_row (wh (n+2)) (ac n) g o);have slip:∀n,vU (CK P (n+5)):=λn v H Q g=>E.fn (n:=n+4) oks.1.2.1.1.1 (is_slip (G n) g);have U:∀n,SPow (CK P (n+1)):=λn b e m H Q g o s u=>E.fn (n:=n) oks.1.1.1.1.1 (powered g o s u);have B:∀n,wf (CK P (n+1)):=λn k ps m H Q g o s u x=>E.fn (n:=n) oks.1.1.2.1.2.1 (comes_to g o s u x);have hp:∀n,SHp (CK P (n+2)):=λn k j m b ps pr H Q g o s=>E.fn (n:=n+1) oks.1.1.2.1.2.2 (holds_prime (B n) (U n) g o s);have ho:∀n,rU "holds" (CK P (n+3)):=λn k j m f pr H Q g o s=>E.fn (n:=n+2) oks.1.1.2.2.1.1 (holds (hp n) (U (n+1)) g o s);have tp:∀n,pK "tells_prime" (CK P (n+1)):=λn m f H Q g=>E.fn (n:=n) oks.1.1.1.2.2.2 (Cg g);have wt:∀n,xd (CK P (n+4)):=λn k rs H Q g o s=>E.fn (n:=n+3) oks.1.2.1.1.2.1 (wrong_at (ho n) (tp (n+2)) g o s);have lb:∀n,pV (CK P (n+6)):=λn v H Q g=>E.fn (n:=n+5) oks.1.2.1.1.2.2 (lets_by (slip n) (wt (n+1)) g);have p1:∀n,p_ (CK P (n+1)):=λn b e m H Q g o s u x z=>sq (E.fn (n:=n) oks.1.2.1.2.2.2 (power g o s u x λH' p=>⟨p,rfl,z⟩));have p2:∀n,tS (CK P (n+2)):=λn m b ps H Q g o s u x=>E.fn (n:=n+1) oks.1.2.2.1.1 (As (p1 n) g o s u x);have lh:∀n,rU "_law_holds" (CK P (n+3)):=λn k j m f pr H Q g o s=>E.fn (n:=n+2) oks.2.1.1.2.1 (FI (p2 n) (p1 (n+1)) g o (s H (af _)));have lt:∀n,pK "_law_tells" (CK P (n+1)):=λn m f H Q g=>E.fn (n:=n) oks.2.1.1.2.2.1 (tells g);have S:∀n,SIsP (CK P (n+1)):=λn m H Q g o s=>E.fn (n:=n) oks.1.2.2.1.2.1 (Ew g o s);have ad:∀n,vR (CK P (n+1)):=λn m H Q g o s=>sq (E.fn (n:=n) oks.1.2.2.1.2.2 (CB g o λH' p=>⟨p,FU _,s⟩));have V:∀n,vS (CK P (n+3)):=λn m c H Q g o s u x=>E.fn (n:=n+2) oks.1.2.2.2.1.1 (FS (ad (n+1)) (p2 n) g o s u x);have part:∀n,vT (CK P (n+2)):=λn m c H Q g o s u x=>sq (E.fn (n:=n+1) oks.1.2.2.2.1.2 (Gk (p1 n) g o s u λr a t b c H' p=>⟨p,uJ r,x r a t b c⟩));have a8:∀n,SBig (CK P (n+2)):=λn c H Q g o=>sq (E.fn (n:=n+1) oks.1.2.2.2.2.1 (B4 (p1 n) g λr a t b c H' p=>⟨p,uJ r,o r a t b c⟩));have C:∀n,wg (CK P (n+1)):=λn c m H Q g o s u x=>E.fn (n:=n) oks.1.2.2.2.2.2 (FF g o s u x);have T:∀n,tR (CK P (n+1)):=λn r H Q g o=>E.fn (n:=n) oks.2.1.1.1.1 (needs g o);have cls:∀n,w9 (CK P (n+4)):=λn P N i j k m D W cs H H0 Q a1 a2 g o s u x z h7 h8 h9 F ae ag ah ai aj=>E.fn (n:=n+3) oks.2.1.1.1.2.1 (Be (S (n+2)) (V n) (part (n+1)) (T (n+2)) a1 a2 g o s u x z h7 h8 h9 F ae ag ah ai aj);have a3:∀n,uD (CK P (n+5)):=λn k m cs H Q g o s u x=>Eb (E.fn (n:=n+4) oks.2.1.1.1.2.2 (Ds (a8 (n+2)) (C (n+3)) (T (n+3)) (cls n) g o s u λm rs H' a b c d=>⟨_,m,a,rfl,b,c,Fk rs,x rs d⟩));have nl:∀n,pc "_law_needs" (CK P (n+1)):=λn k m f H Q g o=>E.fn (n:=n) oks.2.1.1.1.1 (v7 g o);have np:∀n,pc "needs" (CK P (n+1)):=λn k m f H Q g o=>E.fn (n:=n) oks.1.1.2.1.1 (Ad g o);have an:∀n,wj (CK P (n+2)):=λn k m f kd mm H Q g o s u x z=>E.fn (n:=n+1) oks.2.1.2.1.1 (GK (p1 n) g o s u x z);have aq:∀n,w_ (CK P (n+3)):=λn k i rs c m H Q g o s u x z=>E.fn (n:=n+2) oks.2.1.2.1.2.1 (Cb (an n) g o s u x z);have al:∀n,uC (CK P (n+2)):=λn v l a m H Q h0 g o s u=>E.fn (n:=n+1) oks.1.2.1.2.2.1 (Bt (K n) h0 g o s u);have J:∀n,SByT (CK P (n+1)):=λn l H Q g o=>E.fn (n:=n) oks.1.1.2.2.1.2 (GU g o);have sto:∀n,xc (CK P (n+2)):=λn rs m H Q g o s=>E.fx (n:=n+1) oks.1.1.2.2.2.1 (E.own _) (stands_on (J n) (np n) g o s);have a6:∀n,XiN "stands_on" P (n+2):=λn w H X r=>E.fx (n:=n+1) oks.1.1.2.2.2.1 (E.own _) (Gb (J n) r);have M:∀n,SCut (CK P (n+3)):=λn rs m H Q g o s=>E.fx (n:=n+2) oks.1.1.2.2.2.2 (a6 n) (cut (sto n) g o s);have O:∀n,XiN "cut" P (n+3):=λn w H X r=>E.fx (n:=n+2) oks.1.1.2.2.2.2 (a6 n) (AR r);have y:∀n,pW (CK P (n+1)):=λn k L H Q g o s=>E.fm (n:=n) oks.2.2.2.2.1.2 (numbers g o s);have a7:∀n,rG (CK P (n+2)):=λn k L m H Q g o s=>E.fm (n:=n+1) oks.2.2.2.2.1.1 (told (tp n) g o s);have A:∀n w H Q X,RPut w H Q X->g6 P (n+7) "Shelf.put" w H Q X:=λn w H Q X r=>E.fmx (n:=n+6) oks.2.2.2.1.2.2 (E.own _) (put (lb n) r);have ap:∀n w H Q X,qC w H Q X->g6 P (n+4) "Shelf.slip" w H Q X:=λn w H Q X r=>E.fmx (n:=n+3) oks.2.2.2.2.2.1 (O n) (Mine.slip (y (n+2)) (M n) r);have ab:∀n w H Q X,qB w H Q X->g6 P (n+2) "Shelf.drop" w H Q X:=λn w H Q X r=>E.fmx (n:=n+1) oks.2.2.2.2.2.2 (E.own _) (drop (y n) (np n) r);have a0:∀n,pG "_law_put" .obj (CK P (n+8)):=λn k L v r L' H Q g o s u=>E.fx (n:=n+7) oks.2.1.2.1.2.2 ⟨A n,E.ct,E.sv (n+6)⟩ (DO g o (v8 g s u));have a4:∀n,pJ "_law_slip" .obj (CK P (n+5)):=λn k L m H Q g o s=>E.fx (n:=n+4) oks.2.1.2.2.1.2 ⟨ap n,E.ct,E.sv (n+3)⟩ (EQ g o (rZ s).1 (rZ s).2);have R:∀n,p9 "_law_drop" .obj (CK P (n+3)):=λn k L m r L' H Q g o s u=>E.fx (n:=n+2) oks.2.1.2.2.1.1 ⟨ab n,E.ct,E.sv (n+1)⟩ (EF g o (qe g s u).1 (qe g s u).2.1 (qe g s u).2.2);have usr:∀n,tU (CK P (n+2)):=λn i L m H Q g o s=>Gs g s λe Q' q=>E.fn (n:=n+1) oks.2.1.2.2.2.1 (Ay (nl n) (lS g) o q);have Y:∀n,pJ "_law_part" .ref (CK P (n+2)):=λn k L m H Q g o s=>E.fn (n:=n+1) oks.2.1.2.2.2.2 (Mine.part (nl n) g o (rZ s).1 (rZ s).2);have wu:∀n,wY (CK P (n+4)):=λn k rs H Q g o s=>E.fn (n:=n+3) oks.2.1.1.2.2.2 (Gv (lh n) (lt (n+2)) g o s);have Z:∀n,pG "_law_put_due" .ref (CK P (n+5)):=λn k L v r L' H Q g o s u=>E.fn (n:=n+4) oks.2.2.1.1.1 (DN (wu n) g o (v8 g s u));have aa:∀n,p9 "_law_drop_due" .ref (CK P (n+3)):=λn k L m r L' H Q g o s u=>E.fn (n:=n+2) oks.2.2.1.1.2.1 (Ei (usr n) g o (qe g s u).1 (qe g s u).2.1 (qe g s u).2.2);have a5:∀n,rE (CK P (n+1)):=λn i L c H Q g o s u=>E.fn (n:=n) oks.2.2.1.2.2.2 (ER g o s u);have ar:∀n,tT (CK P (n+6)):=λn ic cs H Q g o s=>E.fn (n:=n+5) oks.2.2.1.2.2.1 (thing (a3 n) (aq (n+2)) g o s);have ak:∀n,tQ (CK P (n+7)):=λn k i L m c H Q g o s u x=>E.fn (n:=n+6) oks.2.2.1.1.2.2 (zX (y (n+5)) (a7 (n+4)) (lt (n+5)) (a4 (n+1)) (Y (n+4)) (lb n) g o s u x);have I:∀n,we (CK P (n+3)):=λn k i L H Q g o s u=>E.fn (n:=n+2) oks.2.2.1.2.1 (AC (a7 n) (S (n+1)) g o s u);have a9:∀n,tm (CK P (n+9)):=λn N k i ic L cs H Q g o s u x z h7 h8 h9 F=>E.fn (n:=n+8) oks.2.2.2.1.1 (deed (a0 n) (Z (n+3)) (R (n+5)) (aa (n+5)) (Y (n+6)) (ar (n+2)) (a5 (n+7)) (usr (n+6)) g o s u x z h7 h8 h9 F);exact⟨CK P 9,(λ_ _ _ _ h=>h),zW (al 7) (a3 4) (λk L rs H Q g o s u=>A 2 _ H Q XF ⟨k,L,slA rs,rfl,g,o,.inl ⟨rs,rfl,s,u⟩⟩) (Z 4) (a9 0) (a5 8) (ak 2) (I 6) hl λ_=>rfl⟩
theorem main14 {prog:Program}{R:WRecords}{w:World}{mg mb:Str->Option Value}(G:Ground Q [ae "BOUND"] R (XQ Q [(ae "BOUND",.int 1000000000000000000000000000000)] clsQ) w s0 mg mb h){a:List Int}(c:a.length<=63) :
  ∃mc,g6 (PEnv.mk prog w h mg mb mc) 10 "law" [.fro (a.map .int)] [] (λv _=>v=.bool true) XF:=by
 obtain⟨mc,K⟩:=CX G BG BH Dv;obtain⟨p1,p2,p3,p4,b⟩:=C_;obtain⟨C,N,mN,I⟩:=b.init (prog:=prog) (w:=w) (mb:=mb) K G.X.2;exact⟨mc,oks.2.2.2.1.2.1.call G I (by decide) λB st=>⟨ok14 G K st,AD (zL G K st) c⟩⟩
end
end Mine
end
open PySem PySem.W PyProof.Rows
theorem PySem.Challenge.cw_uf030003_14_holds : PySem.Challenge.rw_uf030003_14.Holds := by
 w_on
 refine holds_law Mine.said fun k=>?_
 refine holds_open (q:=Mine.Q) (loose:=[Str.ofString "BOUND"]) (Xt:=Mine.Xt) (XP:=Mine.XQ Mine.Q [(Str.ofString "BOUND",.int 1000000000000000000000000000000)] Mine.clsQ) (Yf:=Hook.obs Hook.none) (Ya:=Hook.val Hook.none) (YP:=Hook.says Hook.none) (N:=8000) Mine.left (Hook.of Hook.none) (Hook.keeps Hook.none) (fun s e=>⟨⟨xl_of s (Bool.and_eq_true_iff.mp (Bool.and_eq_true_iff.mp (Bool.and_eq_true_iff.mp e).1).1).1,Mine.cf_of s (Bool.and_eq_true_iff.mp (Bool.and_eq_true_iff.mp e).1).2⟩,Mine.xs_of s (Bool.and_eq_true_iff.mp e).2⟩) Mine.XQ.keeps (by rfl) (by rfl) (by rfl) (fun s e=>recFacts_of (Bool.and_eq_true_iff.mp (Bool.and_eq_true_iff.mp (Bool.and_eq_true_iff.mp e).1).1).2) rfl k (by decide +kernel) ⟨rfl,rfl,rfl,rfl,rfl,by decide +kernel⟩ ?hw ?hc
 case hw=>w_witness2
 intro w s0 s1 mg mb G Y fa o pm cd doc dV kV ho hd hcd hD hmg hg args vals as hpre hlay hrd hwl hlo
 have hm:mg (Str.ofString "law")=some (.ref fa):=hmg
 clear ho hd hcd hD Y hmg
 have T:=G.T
 wrow_args hpre hlay hrd hwl hlo
 rename_i hI hr h63 ht
 refine enter_call ?_
 exact Exists.elim (Mine.main14 G (by exact Mine.z514 h63)) fun mc hc=>Mine.finish (n:=10) hm hg (by decide) (by assumption) hI (fun _=>rfl) (Mine.post_true _ _) hc
